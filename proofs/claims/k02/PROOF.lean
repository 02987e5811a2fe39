import PyProof.Rows.All
import Wide.All
import OpenK.AllK
import Wide.FinOn
import HandS.ForMost
import HandS.ForExc
import HandS.TupAny
import HandS.Conv
import HandS.Strs
import KE.GoesMore
import HandS.Wide
import HandS.TupMul
import HandS.SortInts
import HandS.Zip
import HandS.IsInst
import HandS.Style
import HandS.Flow
import HandS.Deep
import HandS.Walk
import HandS.SetFor
import HandS.WideMore
import HandS.EndBits
import KE.DataMinMax
import KE.SortData
import HandS.Gcd
import HandS.TryMany
import HandS.Replace
import KE.KRevSl
import PyProof.SeqIndex
import HandS.More
import KE.DataFind
import KE.DataEq
import PyProof.IsRules
import HandS.ExcInit
import KE.KExcSuper
import HandS.ExcField
import HandS.ExcSuper
import HandS.ExcIs
import KE.KMathGC
import HandS.WideBits
import HandS.TupSets
import PySem.Challenge.RW_everynext_k02_texts_of_charts
set_option Elab.async false
set_option linter.all false
set_option maxRecDepth 100000
set_option maxHeartbeats 4000000
/-! M0: tuples whose object is known to have no dict -/
namespace MM
open PySem L2 PySem.Spec PyProof.Rows
/-- a tuple, its object told -/
def SqN (K : PySem.W.Frag) (H : Hp) (a : Addr) (xs : List V) : Prop :=
  (∃ o, H a = some (.frz o (.tup xs)) ∧ o.dict = none) ∨
    ∃ (o : Obj) (its : Array Value) (n : Nat), K.lookup a = some o ∧ o.cls = .type "tuple" ∧ o.dict = none ∧ o.data = .seq its n ∧ its.size ≤ sizeLine ∧ Vals xs its.toList
theorem SqN.sq {K : PySem.W.Frag} {H : Hp} {a : Addr} {xs : List V} (h : SqN K H a xs) : SqT K H a xs := by
  rcases h with ⟨o, e, _⟩ | ⟨o, its, n, e1, e2, _, e3, e4, e5⟩
  · exact .inl (.inr ⟨o, e⟩)
  · exact .inr ⟨o, its, n, e1, e2, e3, e4, e5⟩
section
variable {X : Cx} {pins : List (Addr × Obj)} {σ : L2.St} {H : Hp} {s : Shared}
theorem SqN.obj (I : L2.Inv X pins σ H s) {a : Addr} {xs : List V} (h : SqN X.K H a xs) : ∃ ob, s.heap.get? a = some ob ∧ ob.cls = .type "tuple" ∧ ob.dict = none := by
  rcases h with ⟨o, e, hd⟩ | ⟨o, its, n, e1, e2, hd, _⟩
  · obtain ⟨e1, _, its, _, o', e2, hc, _⟩ := I.hok a _ e
    rw [e1] at e2; cases e2
    exact ⟨o, e1, hc, hd⟩
  · exact ⟨o, I.kIn a o e1, e2, hd⟩
end
section
variable {X : Cx}
def tTupN (t : TA) : TE := fun σ H Q => t σ H fun xs H1 => xs.length ≤ sizeLine ∧ ∀ p ob, H1 p = none → ob.dict = none → Q (.ref p) (upd H1 p (.frz ob (.tup xs)))
theorem pe_tupN {es : List Expr} {pos : Pos} {t : TA} {x1 : Nat} (h : PA X es t) : PE X (.Tuple es x1 pos) (tTupN t) := by
  refine ⟨fun pins s σ H Q I hq => ?_⟩
  refine wpAny_Tuple_spliced (thn (h.run pos pins s σ H _ I hq) fun us s1 ⟨xs, H1, I1, r, z, q⟩ => ⟨by rw [← r.length]; exact z, ?_⟩)
  have hf : H1 s1.heap.objs.size = none := I1.hok.fresh (Nat.le_refl _)
  refine ⟨.ref s1.heap.objs.size, upd H1 s1.heap.objs.size (.frz { cls := .type "tuple", data := .seq us.toArray } (.tup xs)), I1.laid (t' := s1.toks) (fun b u e => Heap.get?_push_of_some _ e) (Nat.le_refl _) ?_, rfl, q _ _ hf rfl⟩
  exact ⟨Heap.get?_push_size _ rfl, z, us, r, ⟨_, Heap.get?_push_size _ rfl, rfl, _, rfl⟩⟩
def rCatN (K : PySem.W.Frag) : R2 := fun x y H Q => ∃ a b xs ys, x = .ref a ∧ y = .ref b ∧ SqT K H a xs ∧ SqT K H b ys ∧ xs.length + ys.length ≤ sizeLine ∧
  (xs = [] → Q (.ref b) H) ∧ (xs ≠ [] → ys = [] → Q (.ref a) H) ∧ (xs ≠ [] → ys ≠ [] → ∀ p ob, H p = none → ob.dict = none → Q (.ref p) (upd H p (.frz ob (.tup (xs ++ ys)))))
theorem op_catN : OpR X (binaryOp .Add) (rCatN X.K) := by
  intro pins s σ H x y v u Q I rx ry h
  obtain ⟨a, b, xs, ys, rfl, rfl, ha, hb, hz, q0, q1, q2⟩ := h
  by_cases hx : xs = []
  · subst hx
    cases rx
    cases ry
    obtain ⟨its, r1, p1, _⟩ := I.tuple ha
    obtain ⟨its2, r2, p2, _⟩ := I.tuple hb
    cases r1
    exact L2.cat_tup0 p1 p2 ⟨.ref b, H, I, rfl, q0 rfl⟩
  · cases rx
    cases ry
    obtain ⟨its, r1, p1, _⟩ := I.tuple ha
    obtain ⟨its2, r2, p2, _⟩ := I.tuple hb
    refine HT.cat_tup p1 p2 (fun z => hx (r1.nil_iff.mp z)) (fun z => ⟨.ref a, H, I, rfl, q1 hx (r2.nil_iff.mp z)⟩) (fun z => ?_) (by rw [← r1.length, ← r2.length]; exact hz)
    refine ⟨.ref s.heap.objs.size, _, I.laid (t' := s.toks) (o := .frz { cls := .type "tuple", data := .seq (its ++ its2).toArray } (.tup (xs ++ ys))) (fun b ob q => Heap.get?_push_of_some _ q) (Nat.le_refl _) ?_, rfl, q2 hx (fun w => z (r2.nil_iff.mpr w)) _ _ (I.hok.fresh (Nat.le_refl _)) rfl⟩
    exact ⟨Heap.get?_push_size _ rfl, by rw [List.length_append]; exact hz, _, r1.append r2, IsTup.new _ _⟩
def rSlN (K : PySem.W.Frag) : V → Option Int → Option Int → Hp → VK → Prop := fun x lo hi H Q => ∃ a xs, x = .ref a ∧ SqT K H a xs ∧
  (HT.sIx xs.length 0 lo = 0 ∧ HT.sIx xs.length xs.length hi = xs.length → Q (.ref a) H) ∧ (¬ (HT.sIx xs.length 0 lo = 0 ∧ HT.sIx xs.length xs.length hi = xs.length) → ∀ p ob, H p = none → ob.dict = none → Q (.ref p) (upd H p (.frz ob (.tup (cutV xs lo hi)))))
theorem sl_tupN : SlR X (rSlN X.K) := by
  intro pins s σ H x v vl vu lo hi sl Q I rx hs pl pu h
  obtain ⟨a, xs, rfl, hx, q1, q2⟩ := h
  cases rx
  obtain ⟨its, r, ht, hz⟩ := I.tuple hx
  have hlen : its.toArray.size = xs.length := by rw [List.size_toArray]; exact r.length.symm
  by_cases hw : HT.sIx xs.length 0 lo = 0 ∧ HT.sIx xs.length xs.length hi = xs.length
  · refine ⟨"tuple", _, PyProof.Rows.slot_tuple_getitem.lookup, ht.typeIs, ?_⟩
    exact L2.getItem_tuple_whole ht hs pl pu (by rw [hlen]; exact hw) ⟨.ref a, H, I, rfl, q1 hw⟩
  · refine ⟨"tuple", _, PyProof.Rows.slot_tuple_getitem.lookup, ht.typeIs, ?_⟩
    refine HT.getItem_tuple_cut ht hs pl pu (by rw [hlen]; exact hw) ?_ (by rw [hlen]; exact hz)
    rw [hlen]
    refine ⟨.ref s.heap.objs.size, _, I.laid (t' := s.toks) (o := .frz { cls := .type "tuple", data := .seq ((its.drop (HT.sIx xs.length 0 lo)).take (HT.sIx xs.length xs.length hi - HT.sIx xs.length 0 lo)).toArray } (.tup (cutV xs lo hi))) (fun b ob q => Heap.get?_push_of_some _ q) (Nat.le_refl _) ?_, rfl, q2 hw _ _ (I.hok.fresh (Nat.le_refl _)) rfl⟩
    exact ⟨Heap.get?_push_size _ rfl, Nat.le_trans (cutV_length xs lo hi) hz, _, (r.drop (HT.sIx xs.length 0 lo)).take (HT.sIx xs.length xs.length hi - HT.sIx xs.length 0 lo), IsTup.new _ _⟩
theorem call_tupleN : CallR X (.type "tuple") (fun xs H Q => ∃ p ys, xs = [.ref p] ∧ ((SqL X.K H p ys ∧ ∀ l ob, H l = none → ob.dict = none → Q (.ref l) (upd H l (.frz ob (.tup ys)))) ∨ (SqT X.K H p ys ∧ Q (.ref p) H))) := by
  intro pins s σ H xs us Q I r h
  obtain ⟨p, ys, rfl, h⟩ := h
  obtain ⟨u, rfl, rx⟩ := vals1 r
  cases rx
  rcases h with ⟨hq, q⟩ | ⟨hq, q⟩
  · obtain ⟨its, r', pl, hz⟩ := I.list hq
    have hlen := r'.length
    refine call_tuple_list pl.isList (fun h' kp => ?_) (by simp only [List.size_toArray] <;> omega)
    have I1 : L2.Inv X pins σ H { s with heap := h' } := I.kept (t' := s.toks) kp
    exact ⟨.ref h'.objs.size, _, I1.laid (t' := s.toks) (o := .frz { cls := .type "tuple", data := .seq its.toArray } (.tup ys)) (fun b o e => Heap.get?_push_of_some _ e) (Nat.le_refl _) ⟨Heap.get?_push_size _ rfl, hz, its, r', IsTup.new _ _⟩, rfl, q _ _ (I1.hok.fresh (Nat.le_refl _)) rfl⟩
  · obtain ⟨its, _, p1, _⟩ := I.tuple hq
    exact call_tuple_same (items := its.toArray) p1 ⟨.ref p, H, I, rfl, q⟩
end
end MM
/-! M1: values, the small heap, relations, readings -/
namespace MM
open PySem L2

inductive IV where
  | non
  | bl (b : Bool)
  | int (i : Int)
  | str (s : Str)
  | fz (xs : List IV)
  | ref (k : Nat)
  | tup (xs : List IV)
  deriving Inhabited

/-- what stands in the small heap -/
inductive IO where
  | lst (xs : List IV)
  | gone
  deriving Inhabited

abbrev IH := List IO
abbrev IEnv := List (Option IV)

/-- an exception: its class by number, its field's value -/
structure XC where
  cls : Nat
  fld : Option IV

inductive R (α : Type) where
  | ok (a : α) (h : IH)
  | exc (x : XC) (h : IH)
  | bad

def R.bind {α β : Type} (r : R α) (f : α → IH → R β) : R β :=
  match r with
  | .ok a h => f a h
  | .exc x h => .exc x h
  | .bad => .bad

inductive RS where
  | nx (e : IEnv) (h : IH)
  | rt (v : IV) (h : IH)
  | bk (e : IEnv) (h : IH)
  | ct (e : IEnv) (h : IH)
  | exc (x : XC) (e : IEnv) (h : IH)
  | bad

/-- the classes of exceptions by number, their fields' names -/
structure Cc where
  ca : Nat → Addr
  cf : Nat → Str

/-- a list that nobody writes -/
def SqF (K : PySem.W.Frag) (H : Hp) (a : Addr) (xs : List V) : Prop :=
  (∃ o, H a = some (.frz o (.lst xs))) ∨ ∃ (its : Array Value) (n : Nat), K.lookup a = some { cls := .type "list", data := .seq its n } ∧ its.size ≤ sizeLine ∧ Vals xs its.toList

mutual
def VR (K : PySem.W.Frag) (m : List Addr) (H : Hp) : IV → V → Prop
  | .non, v => v = .non
  | .bl b, v => v = .bl b
  | .int i, v => v = .int i
  | .str s, v => v = .str s
  | .fz xs, v => ∃ a vs, v = .ref a ∧ SqF K H a vs ∧ VRs K m H xs vs
  | .ref k, v => ∃ a, m[k]? = some a ∧ v = .ref a
  | .tup xs, v => ∃ a vs, v = .ref a ∧ SqN K H a vs ∧ VRs K m H xs vs
def VRs (K : PySem.W.Frag) (m : List Addr) (H : Hp) : List IV → List V → Prop
  | [], vs => vs = []
  | x :: xs, vs => ∃ v r, vs = v :: r ∧ VR K m H x v ∧ VRs K m H xs r
end

def OR (K : PySem.W.Frag) (m : List Addr) (H : Hp) : IO → Addr → Prop
  | .lst xs, a => ∃ vs, H a = some (.lst vs) ∧ VRs K m H xs vs
  | .gone, a => ∃ ob vs, H a = some (.frz ob (.lst vs))

structure SR (K : PySem.W.Frag) (m : List Addr) (H : Hp) (h : IH) : Prop where
  len : m.length = h.length
  nd : m.Nodup
  obj : ∀ (k : Nat) o, h[k]? = some o → ∃ a, m[k]? = some a ∧ OR K m H o a

/-- from one state to a later one -/
structure Go (K : PySem.W.Frag) (m : List Addr) (H : Hp) (m' : List Addr) (H' : Hp) : Prop where
  pre : ∀ (k : Nat) a, m[k]? = some a → m'[k]? = some a
  new : ∀ a, a ∈ m' → a ∈ m ∨ H a = none
  fr : ∀ a o, H a = some o → a ∉ m → H' a = some o
  tup : ∀ a xs, SqN K H a xs → SqN K H' a xs
  frz : ∀ a o u, H a = some (.frz o u) → H' a = some (.frz o u)

section
variable {K : PySem.W.Frag} {m m1 m' : List Addr} {H H1 H' : Hp} {h : IH}
theorem Go.refl : Go K m H m H := ⟨fun _ _ e => e, fun _ e => .inl e, fun _ _ e _ => e, fun _ _ e => e, fun _ _ _ e => e⟩
theorem Go.trans (g : Go K m H m1 H1) (g' : Go K m1 H1 m' H') : Go K m H m' H' where
  pre := fun k a e => g'.pre k a (g.pre k a e)
  new := fun a e => by
    rcases g'.new a e with e1 | e1
    · exact g.new a e1
    · cases q : H a with
      | none => exact .inr rfl
      | some o =>
        by_cases ha : a ∈ m
        · exact .inl ha
        · rw [g.fr a o q ha] at e1; cases e1
  fr := fun a o e n => g'.fr a o (g.fr a o e n) fun z => by
    rcases g.new a z with q | q
    · exact n q
    · rw [q] at e; cases e
  tup := fun a xs e => g'.tup a xs (g.tup a xs e)
  frz := fun a o u e => g'.frz a o u (g.frz a o u e)

theorem SqF.list {a : Addr} {xs : List V} (s : SqF K H a xs) : SqL K H a xs := by
  rcases s with ⟨o, q⟩ | ⟨its, n, hk, hz, r⟩
  · exact .inl (.inr ⟨o, q⟩)
  · exact .inr ⟨_, its, n, hk, rfl, rfl, rfl, hz, r⟩
theorem Go.scr (g : Go K m H m' H') {a : Addr} {xs : List V} (s : SqF K H a xs) : SqF K H' a xs := by
  rcases s with ⟨o, q⟩ | q
  · exact .inl ⟨o, g.frz _ _ _ q⟩
  · exact .inr q
/-- a tracked thing outside stays outside -/
theorem Go.out {a : Addr} {o : HO} (g : Go K m H m' H') (e : H a = some o) (n : a ∉ m) : a ∉ m' := fun z => by
  rcases g.new a z with q | q
  · exact n q
  · rw [q] at e; cases e

mutual
theorem VR.imp (pre : ∀ (k : Nat) a, m[k]? = some a → m'[k]? = some a) (tup : ∀ a xs, SqN K H a xs → SqN K H' a xs) (scr : ∀ a xs, SqF K H a xs → SqF K H' a xs) : ∀ (x : IV) (v : V), VR K m H x v → VR K m' H' x v
  | .non, _, r => by simpa only [VR] using r
  | .bl _, _, r => by simpa only [VR] using r
  | .int _, _, r => by simpa only [VR] using r
  | .str _, _, r => by simpa only [VR] using r
  | .fz xs, _, r => by
    simp only [VR] at r ⊢
    obtain ⟨a, vs, e, s, q⟩ := r
    exact ⟨a, vs, e, scr _ _ s, VRs.imp pre tup scr xs vs q⟩
  | .ref k, _, r => by
    simp only [VR] at r ⊢
    obtain ⟨a, e, e2⟩ := r
    exact ⟨a, pre _ _ e, e2⟩
  | .tup xs, _, r => by
    simp only [VR] at r ⊢
    obtain ⟨a, vs, e, s, q⟩ := r
    exact ⟨a, vs, e, tup _ _ s, VRs.imp pre tup scr xs vs q⟩
theorem VRs.imp (pre : ∀ (k : Nat) a, m[k]? = some a → m'[k]? = some a) (tup : ∀ a xs, SqN K H a xs → SqN K H' a xs) (scr : ∀ a xs, SqF K H a xs → SqF K H' a xs) : ∀ (xs : List IV) (vs : List V), VRs K m H xs vs → VRs K m' H' xs vs
  | [], _, r => by simpa only [VRs] using r
  | x :: xs, _, r => by
    simp only [VRs] at r ⊢
    obtain ⟨v, q, e, r1, r2⟩ := r
    exact ⟨v, q, e, VR.imp pre tup scr x v r1, VRs.imp pre tup scr xs q r2⟩
end
theorem VR.mono (g : Go K m H m' H') (x : IV) (v : V) (r : VR K m H x v) : VR K m' H' x v := VR.imp g.pre g.tup (fun _ _ s => g.scr s) x v r
theorem VRs.mono (g : Go K m H m' H') (x : List IV) (v : List V) (r : VRs K m H x v) : VRs K m' H' x v := VRs.imp g.pre g.tup (fun _ _ s => g.scr s) x v r
theorem pre_more {p : Addr} (k : Nat) (a : Addr) (e : m[k]? = some a) : (m ++ [p])[k]? = some a := by
  rw [List.getElem?_append_left (List.getElem?_eq_some_iff.mp e).1]; exact e
theorem VR.more {p : Addr} {x : IV} {v : V} (r : VR K m H x v) : VR K (m ++ [p]) H x v := VR.imp pre_more (fun _ _ e => e) (fun _ _ e => e) x v r
theorem VRs.more {p : Addr} {x : List IV} {v : List V} (r : VRs K m H x v) : VRs K (m ++ [p]) H x v := VRs.imp pre_more (fun _ _ e => e) (fun _ _ e => e) x v r
theorem VRs.length : ∀ {xs : List IV} {vs : List V}, VRs K m H xs vs → xs.length = vs.length
  | [], _, r => by simp only [VRs] at r; subst r; rfl
  | x :: xs, _, r => by
    simp only [VRs] at r
    obtain ⟨v, q, rfl, _, r2⟩ := r
    simp [VRs.length r2]
theorem VRs.get : ∀ {xs : List IV} {vs : List V} {i : Nat} {x : IV}, VRs K m H xs vs → xs[i]? = some x → ∃ v, vs[i]? = some v ∧ VR K m H x v
  | [], _, i, x, _, e => by simp at e
  | y :: xs, _, i, x, r, e => by
    simp only [VRs] at r
    obtain ⟨v, q, rfl, r1, r2⟩ := r
    cases i with
    | zero => simp at e; subst e; exact ⟨v, rfl, r1⟩
    | succ i =>
      obtain ⟨u, h1, h2⟩ := VRs.get (i := i) r2 (by simpa using e)
      exact ⟨u, by simpa using h1, h2⟩
theorem VRs.append : ∀ {xs ys : List IV} {vs ws : List V}, VRs K m H xs vs → VRs K m H ys ws → VRs K m H (xs ++ ys) (vs ++ ws)
  | [], _, _, _, r, r' => by simp only [VRs] at r; subst r; exact r'
  | x :: xs, _, _, _, r, r' => by
    simp only [VRs] at r
    obtain ⟨v, q, rfl, r1, r2⟩ := r
    simp only [List.cons_append, VRs]
    exact ⟨v, _, rfl, r1, VRs.append r2 r'⟩
theorem VRs.set : ∀ {xs : List IV} {vs : List V} (i : Nat) {x : IV} {v : V}, VRs K m H xs vs → VR K m H x v → VRs K m H (xs.set i x) (vs.set i v)
  | [], _, i, _, _, r, _ => by simp only [VRs] at r; subst r; simp [VRs]
  | y :: xs, _, i, x, v, r, rx => by
    simp only [VRs] at r
    obtain ⟨u, q, rfl, r1, r2⟩ := r
    cases i with
    | zero => simp only [List.set_cons_zero, VRs]; exact ⟨v, q, rfl, rx, r2⟩
    | succ i => simp only [List.set_cons_succ, VRs]; exact ⟨u, _, rfl, r1, VRs.set i r2 rx⟩
theorem VRs.take : ∀ {xs : List IV} {vs : List V} (n : Nat), VRs K m H xs vs → VRs K m H (xs.take n) (vs.take n)
  | [], _, n, r => by simp only [VRs] at r; subst r; simp [VRs]
  | y :: xs, _, n, r => by
    simp only [VRs] at r
    obtain ⟨u, q, rfl, r1, r2⟩ := r
    cases n with
    | zero => simp [VRs]
    | succ n => simp only [List.take_succ_cons, VRs]; exact ⟨u, _, rfl, r1, VRs.take n r2⟩
theorem VRs.drop : ∀ {xs : List IV} {vs : List V} (n : Nat), VRs K m H xs vs → VRs K m H (xs.drop n) (vs.drop n)
  | [], _, n, r => by simp only [VRs] at r; subst r; simp [VRs]
  | y :: xs, _, n, r => by
    cases n with
    | zero => exact r
    | succ n =>
      simp only [VRs] at r
      obtain ⟨u, q, rfl, r1, r2⟩ := r
      simpa using VRs.drop n r2
theorem VRs.reverse : ∀ {xs : List IV} {vs : List V}, VRs K m H xs vs → VRs K m H xs.reverse vs.reverse
  | [], _, r => by simp only [VRs] at r; subst r; simp [VRs]
  | y :: xs, _, r => by
    simp only [VRs] at r
    obtain ⟨u, q, rfl, r1, r2⟩ := r
    simp only [List.reverse_cons]
    exact VRs.append (VRs.reverse r2) ⟨u, [], rfl, r1, rfl⟩
theorem VRs.eraseIdx : ∀ {xs : List IV} {vs : List V} (n : Nat), VRs K m H xs vs → VRs K m H (xs.eraseIdx n) (vs.eraseIdx n)
  | [], _, n, r => by simp only [VRs] at r; subst r; simp [VRs]
  | y :: xs, _, n, r => by
    simp only [VRs] at r
    obtain ⟨u, q, rfl, r1, r2⟩ := r
    cases n with
    | zero => simpa using r2
    | succ n => simp only [List.eraseIdx_cons_succ, VRs]; exact ⟨u, _, rfl, r1, VRs.eraseIdx n r2⟩
theorem VRs.rep {xs : List IV} {vs : List V} (r : VRs K m H xs vs) : ∀ n : Nat, VRs K m H (List.replicate n xs).flatten (List.replicate n vs).flatten
  | 0 => by simp [VRs]
  | n + 1 => by
    rw [List.replicate_succ, List.replicate_succ, List.flatten_cons, List.flatten_cons]
    exact VRs.append r (VRs.rep r n)
theorem VRs.ints : ∀ {ns : List Int} {vs : List V}, VRs K m H (ns.map IV.int) vs → vs = ns.map V.int
  | [], _, r => by simp only [List.map, VRs] at r; exact r
  | n :: ns, _, r => by
    simp only [List.map, VRs, VR] at r
    obtain ⟨v, q, rfl, rfl, r2⟩ := r
    rw [VRs.ints r2]; rfl
theorem VRs.of_ints : ∀ (ns : List Int), VRs K m H (ns.map IV.int) (ns.map V.int)
  | [] => by simp [VRs]
  | n :: ns => by simp only [List.map, VRs, VR]; exact ⟨_, _, rfl, rfl, VRs.of_ints ns⟩

theorem SR.mem (s : SR K m H h) {a : Addr} (ha : a ∈ m) : ∃ o, H a = some o := by
  obtain ⟨k, e⟩ := List.mem_iff_getElem?.mp ha
  have hk : k < h.length := by
    rw [← s.len]; exact (List.getElem?_eq_some_iff.mp e).1
  obtain ⟨b, e2, q⟩ := s.obj k h[k] (by simp [hk])
  rw [e] at e2; cases e2
  cases ho : h[k] with
  | lst xs =>
    rw [ho] at q
    obtain ⟨vs, q1, _⟩ := q
    exact ⟨_, q1⟩
  | gone =>
    rw [ho] at q
    obtain ⟨ob, vs, q⟩ := q
    exact ⟨_, q⟩
theorem SR.fresh (s : SR K m H h) {p : Addr} (hp : H p = none) : p ∉ m := fun z => by
  obtain ⟨vs, e⟩ := s.mem z
  rw [hp] at e; cases e
theorem SqN.upd_new {p : Addr} {o : HO} (hp : H p = none) {a : Addr} {xs : List V} (t : SqN K H a xs) : SqN K (upd H p o) a xs := by
  rcases t with ⟨o', q, d⟩ | q
  · exact .inl ⟨o', by rw [upd_ne (ne_of_none q hp)]; exact q, d⟩
  · exact .inr q
/-- a new thing that the small heap does not hold -/
theorem Go.laid {p : Addr} {o : HO} (hp : H p = none) : Go K m H m (upd H p o) :=
  ⟨fun _ _ e => e, fun _ e => .inl e, fun a u e _ => by rw [upd_ne (ne_of_none e hp)]; exact e, fun _ _ t => SqN.upd_new hp t, fun a u v e => by rw [upd_ne (ne_of_none e hp)]; exact e⟩
theorem OR.mono {o : IO} {a : Addr} (g : Go K m H m' H') (e : ∀ u, H a = some u → H' a = some u) (q : OR K m H o a) : OR K m' H' o a := by
  cases o with
  | lst xs =>
    obtain ⟨vs, q1, q2⟩ := q
    exact ⟨vs, e _ q1, VRs.mono g _ _ q2⟩
  | gone =>
    obtain ⟨o, u, q⟩ := q
    exact ⟨o, u, e _ q⟩
theorem SR.laid {p : Addr} {o : HO} (s : SR K m H h) (hp : H p = none) : SR K m (upd H p o) h :=
  ⟨s.len, s.nd, fun k u e => by
    obtain ⟨a, e1, q⟩ := s.obj k u e
    exact ⟨a, e1, OR.mono (Go.laid hp) (fun w e => by rw [upd_ne (ne_of_none e hp)]; exact e) q⟩⟩
theorem VR.newTup {p : Addr} {ob : Obj} {xs : List IV} {vs : List V} (hp : H p = none) (hd : ob.dict = none) (r : VRs K m H xs vs) : VR K m (upd H p (.frz ob (.tup vs))) (.tup xs) (.ref p) := by
  simp only [VR]
  exact ⟨p, vs, rfl, .inl ⟨ob, upd_same, hd⟩, VRs.mono (Go.laid hp) _ _ r⟩
/-- a list that stands outside is taken into the small heap -/
theorem Go.take {p : Addr} {vs : List V} (hp : H p = some (.lst vs)) (hn : p ∉ m) {m0 : List Addr} {H0 : Hp} (g : Go K m0 H0 m H) (h0 : H0 p = none) : Go K m0 H0 (m ++ [p]) H where
  pre := fun k a e => by
    have q := g.pre k a e
    rw [List.getElem?_append_left (List.getElem?_eq_some_iff.mp q).1]; exact q
  new := fun a e => by
    rcases List.mem_append.mp e with q | q
    · exact g.new a q
    · simp at q; subst q; exact .inr h0
  fr := fun a o e n => g.fr a o e n
  tup := g.tup
  frz := g.frz
theorem SR.take {p : Addr} {xs : List IV} {vs : List V} (s : SR K m H h) (hp : H p = some (.lst vs)) (hn : p ∉ m) (r : VRs K m H xs vs) : SR K (m ++ [p]) H (h ++ [.lst xs]) where
  len := by simp [s.len]
  nd := by
    refine List.nodup_append.mpr ⟨s.nd, by simp, fun a ha b hb => ?_⟩
    simp at hb; subst hb
    intro z; exact hn (z ▸ ha)
  obj := fun k o e => by
    by_cases hk : k < h.length
    · rw [List.getElem?_append_left hk] at e
      obtain ⟨a, e1, q⟩ := s.obj k o e
      refine ⟨a, pre_more _ _ e1, ?_⟩
      cases o with
      | lst ys =>
        obtain ⟨ws, q1, q2⟩ := q
        exact ⟨ws, q1, VRs.more q2⟩
      | gone => exact q
    · have hk2 : k = h.length := by
        have := (List.getElem?_eq_some_iff.mp e).1
        simp at this; omega
      subst hk2
      simp at e; subst e
      refine ⟨p, by rw [← s.len]; simp, vs, hp, VRs.more r⟩
/-- an object of the small heap is written -/
theorem Go.write {k : Nat} {a : Addr} {o : HO} {vs : List V} (e : m[k]? = some a) (ha : H a = some (.lst vs)) : Go K m H m (upd H a o) where
  pre := fun _ _ e => e
  new := fun _ e => .inl e
  fr := fun b u e1 n => by
    have nb : b ≠ a := fun z => n (by rw [z]; exact List.mem_of_getElem? e)
    rw [upd_ne nb]; exact e1
  tup := fun b xs t => by
    rcases t with ⟨o', q, d⟩ | q
    · exact .inl ⟨o', by rw [upd_ne (ne_of q ha (by intro z; cases z))]; exact q, d⟩
    · exact .inr q
  frz := fun b o' u q => by rw [upd_ne (ne_of q ha (by intro z; cases z))]; exact q
theorem SR.write {k : Nat} {a : Addr} {vs ws : List V} {xs : List IV} (s : SR K m H h) (e : m[k]? = some a) (ha : H a = some (.lst vs)) (r : VRs K m H xs ws) : SR K m (upd H a (.lst ws)) (h.set k (.lst xs)) where
  len := by simp [s.len]
  nd := s.nd
  obj := fun j o q => by
    have g : Go K m H m (upd H a (.lst ws)) := Go.write e ha
    by_cases hj : k = j
    · subst hj
      have hk : k < h.length := by rw [← s.len]; exact (List.getElem?_eq_some_iff.mp e).1
      rw [List.getElem?_set_self hk] at q; cases q
      exact ⟨a, e, ws, upd_same, VRs.mono g _ _ r⟩
    · rw [List.getElem?_set_ne hj] at q
      obtain ⟨b, e1, q1⟩ := s.obj j o q
      have nb : b ≠ a := fun z => hj ((List.getElem_inj s.nd (h₀ := (List.getElem?_eq_some_iff.mp e).1) (h₁ := (List.getElem?_eq_some_iff.mp e1).1)).mp (by
        rw [(List.getElem?_eq_some_iff.mp e).2, (List.getElem?_eq_some_iff.mp e1).2, z]))
      refine ⟨b, e1, OR.mono g (fun u z => by rw [upd_ne nb]; exact z) q1⟩
theorem SR.get {k : Nat} {xs : List IV} (s : SR K m H h) (e : h[k]? = some (.lst xs)) : ∃ a vs, m[k]? = some a ∧ H a = some (.lst vs) ∧ VRs K m H xs vs := by
  obtain ⟨a, e1, vs, q1, q2⟩ := s.obj k _ e
  exact ⟨a, vs, e1, q1, q2⟩

/-! ### environments -/
structure ER (K : PySem.W.Frag) (m : List Addr) (H : Hp) (env : IEnv) (σ : St) : Prop where
  len : env.length = σ.length
  at_ : ∀ (i : Nat) x, env[i]? = some (some x) → ∃ v, σ[i]? = some (some v) ∧ VR K m H x v
theorem ER.mono {env : IEnv} {σ : St} (e : ER K m H env σ) (g : Go K m H m' H') : ER K m' H' env σ :=
  ⟨e.len, fun i x q => by
    obtain ⟨v, h1, h2⟩ := e.at_ i x q
    exact ⟨v, h1, VR.mono g _ _ h2⟩⟩
theorem ER.set {env : IEnv} {σ : St} (e : ER K m H env σ) {i : Nat} {x : IV} {v : V} (r : VR K m H x v) : ER K m H (env.set i (some x)) (σ.set i (some v)) :=
  ⟨by simp [e.len], fun j y q => by
    by_cases hj : i = j
    · subst hj
      have hi : i < env.length := by
        have := (List.getElem?_eq_some_iff.mp q).1
        simpa using this
      rw [List.getElem?_set_self hi] at q; cases q
      exact ⟨v, by rw [List.getElem?_set_self (by rw [← e.len]; exact hi)], r⟩
    · rw [List.getElem?_set_ne hj] at q
      obtain ⟨u, h1, h2⟩ := e.at_ j y q
      exact ⟨u, by rw [List.getElem?_set_ne hj]; exact h1, h2⟩⟩
end

/-! ### readings -/
/-- what is told of an answer: the state at the start, the state at the end, the two sides -/
abbrev Rel (α β : Type) := List Addr → Hp → List Addr → Hp → α → β → Prop
class RelMono {α β : Type} (K : PySem.W.Frag) (rel : Rel α β) : Prop where
  mono : ∀ {m H m1 H1 m' H' a u}, Go K m H m1 H1 → rel m1 H1 m' H' a u → rel m H m' H' a u

def XRel (C : Cc) (K : PySem.W.Frag) (m : List Addr) (H : Hp) (x : XC) (cls : Value) (d : Option Addr) : Prop :=
  cls = .ref (C.ca x.cls) ∧ match x.fld with
    | none => d = none
    | some v => ∃ dd u, d = some dd ∧ dd ∉ m ∧ H dd = some (.xd [(C.cf x.cls, u)]) ∧ VR K m H v u

def Post (C : Cc) (K : PySem.W.Frag) (W : WX) (σ : St) {α β : Type} (m : List Addr) (H : Hp) (rel : Rel α β) (Q : β → Hp → Prop) : R α → Prop
  | .ok a h' => ∀ m' H' u, Go K m H m' H' → SR K m' H' h' → rel m H m' H' a u → Q u H'
  | .exc x h' => ∀ m' H' cls d, Go K m H m' H' → SR K m' H' h' → XRel C K m' H' x cls d → W cls d σ H'
  | .bad => False

/-- the reading of what f computes, told by rel -/
def tG (C : Cc) (K : PySem.W.Frag) (W : WX) {α β : Type} (rel : Rel α β) (f : IEnv → IH → R α) : St → Hp → (β → Hp → Prop) → Prop := fun σ H Q =>
  ∃ m env h, ER K m H env σ ∧ SR K m H h ∧ Post C K W σ m H rel Q (f env h)

section
variable {C : Cc} {K : PySem.W.Frag} {W : WX} {σ : St} {α β γ δ : Type} {m m' : List Addr} {H H' : Hp} {h : IH} {env : IEnv} {rel : Rel α β} {rel2 : Rel γ δ}
theorem Post.mono [RelMono K rel] {Q : β → Hp → Prop} {r : R α} (g : Go K m H m' H') (p : Post C K W σ m H rel Q r) : Post C K W σ m' H' rel Q r := by
  cases r with
  | ok a h' => exact fun m1 H1 u g1 s q => p m1 H1 u (g.trans g1) s (RelMono.mono g q)
  | exc x h' => exact fun m1 H1 c d g1 s q => p m1 H1 c d (g.trans g1) s q
  | bad => exact p
theorem tg_run [RelMono K rel2] {f : R α} {k : α → IH → R γ} {Q : δ → Hp → Prop} {T : β → Hp → Prop} (p : Post C K W σ m H rel2 Q (f.bind k))
    (hT : ∀ m' H' a h' u, Go K m H m' H' → SR K m' H' h' → rel m H m' H' a u → Post C K W σ m' H' rel2 Q (k a h') → T u H') : Post C K W σ m H rel T f := by
  cases f with
  | ok a h' => exact fun m1 H1 u g s q => hT m1 H1 a h' u g s q (Post.mono g p)
  | exc x h' => exact p
  | bad => exact p
/-- the answer is at hand -/
theorem Post.here {Q : β → Hp → Prop} {a : α} {u : β} (p : Post C K W σ m H rel Q (.ok a h)) (s : SR K m H h) (r : rel m H m H a u) : Q u H := p m H u Go.refl s r
end

def rV (K : PySem.W.Frag) : Rel IV V := fun _ _ m H => VR K m H
def rVs (K : PySem.W.Frag) : Rel (List IV) (List V) := fun _ _ m H => VRs K m H
def rB : Rel Bool Bool := fun _ _ _ _ a b => a = b
def rO : Rel (Option Int) (Option Int) := fun _ _ _ _ a b => a = b
/-- a list outside the small heap, which nobody else holds -/
def rL (K : PySem.W.Frag) : Rel (List IV) V := fun m0 H0 m H xs v => ∃ p vs, v = .ref p ∧ p ∉ m ∧ (p ∉ m0 → H0 p = none) ∧ H p = some (.lst vs) ∧ VRs K m H xs vs
/-- a list or a tuple, to be read at once -/
def rS (K : PySem.W.Frag) : Rel (List IV) V := fun _ _ m H xs v => ∃ p vs, v = .ref p ∧ (SqL K H p vs ∨ SqN K H p vs) ∧ VRs K m H xs vs
instance {K : PySem.W.Frag} : RelMono K (rV K) := ⟨fun _ r => r⟩
instance {K : PySem.W.Frag} : RelMono K (rVs K) := ⟨fun _ r => r⟩
instance {K : PySem.W.Frag} : RelMono K rB := ⟨fun _ r => r⟩
instance {K : PySem.W.Frag} : RelMono K rO := ⟨fun _ r => r⟩
instance {K : PySem.W.Frag} : RelMono K (rS K) := ⟨fun _ r => r⟩
theorem fresh_back {K : PySem.W.Frag} {m m1 : List Addr} {H H1 : Hp} {p : Addr} (g : Go K m H m1 H1) (f : p ∉ m1 → H1 p = none) (hp : p ∉ m) : H p = none := by
  cases z : H p with
  | none => rfl
  | some o =>
    have z1 := f (g.out z hp)
    rw [g.fr p o z hp] at z1
    cases z1
instance {K : PySem.W.Frag} : RelMono K (rL K) := ⟨fun g ⟨p, vs, e, n, f, q, r⟩ => ⟨p, vs, e, n, fresh_back g f, q, r⟩⟩
abbrev EM := IEnv → IH → R IV
abbrev tE (C : Cc) (K : PySem.W.Frag) (W : WX) (f : EM) : TE := tG C K W (rV K) f
abbrev tA (C : Cc) (K : PySem.W.Frag) (W : WX) (f : IEnv → IH → R (List IV)) : TA := tG C K W (rVs K) f
abbrev tT (C : Cc) (K : PySem.W.Frag) (W : WX) (f : IEnv → IH → R Bool) : TT := tG C K W rB f
abbrev tL (C : Cc) (K : PySem.W.Frag) (W : WX) (f : IEnv → IH → R (List IV)) : TE := tG C K W (rL K) f
abbrev tSq (C : Cc) (K : PySem.W.Frag) (W : WX) (f : IEnv → IH → R (List IV)) : TE := tG C K W (rS K) f
abbrev tOI (C : Cc) (K : PySem.W.Frag) (W : WX) (f : IEnv → IH → R (Option Int)) : TO := tG C K W rO f

section
variable {X : Cx} {C : Cc} {W : WX}
theorem pe_weak {e : Expr} {t t' : TE} (h : PE X e t) (q : ∀ σ H Q, t' σ H Q → t σ H Q) : PE X e t' := ⟨fun pins s σ H Q I z => h.run pins s σ H Q I (q _ _ _ z)⟩
theorem pt_weak {e : Expr} {t t' : TT} (h : PT X e t) (q : ∀ σ H Q, t' σ H Q → t σ H Q) : PT X e t' := ⟨fun pins s σ H Q I z => h.run pins s σ H Q I (q _ _ _ z)⟩
theorem pw_weak {e : Expr} {t t' : TT} (h : PW X e t) (q : ∀ σ H Q, t' σ H Q → t σ H Q) : PW X e t' := ⟨fun wh pins s σ H Q I z => h.run wh pins s σ H Q I (q _ _ _ z)⟩
theorem pa_weak {es : List Expr} {t t' : TA} (h : PA X es t) (q : ∀ σ H Q, t' σ H Q → t σ H Q) : PA X es t' := ⟨fun ps pins s σ H Q I z => h.run ps pins s σ H Q I (q _ _ _ z)⟩
theorem ps_weak {e : Stmt} {t t' : TS} (h : PS X e t) (q : ∀ D σ H, t' D σ H → t D σ H) : PS X e t' := ⟨fun pins s σ H D I z => h.run pins s σ H D I (q _ _ _ z)⟩
theorem pss_weak {e : List Stmt} {t t' : TS} (h : PSs X e t) (q : ∀ D σ H, t' D σ H → t D σ H) : PSs X e t' := ⟨fun pins s σ H D I z => h.run pins s σ H D I (q _ _ _ z)⟩
end
end MM
/-! M2: expressions -/
namespace MM
open PySem L2

/-! ### the combinators -/
def eVar (i : Nat) : EM := fun env h => match env[i]? with
  | some (some v) => .ok v h
  | _ => .bad
def eK (v : IV) : EM := fun _ h => .ok v h
def e1 (o : IV → IH → R IV) (f : EM) : EM := fun env h => (f env h).bind fun x h1 => o x h1
def e2 (o : IV → IV → IH → R IV) (f g : EM) : EM := fun env h => (f env h).bind fun x h1 => (g env h1).bind fun y h2 => o x y h2
def aNil : IEnv → IH → R (List IV) := fun _ h => .ok [] h
def aCons (f : EM) (g : IEnv → IH → R (List IV)) : IEnv → IH → R (List IV) := fun env h => (f env h).bind fun x h1 => (g env h1).bind fun xs h2 => .ok (x :: xs) h2
def eC (o : List IV → IH → R IV) (f : IEnv → IH → R (List IV)) : EM := fun env h => (f env h).bind fun xs h1 => o xs h1
def eTup (f : IEnv → IH → R (List IV)) : EM := fun env h => (f env h).bind fun xs h1 => if xs.length ≤ sizeLine then .ok (.tup xs) h1 else .bad
def lLst (f : IEnv → IH → R (List IV)) : IEnv → IH → R (List IV) := fun env h => (f env h).bind fun xs h1 => if xs.length ≤ sizeLine then .ok xs h1 else .bad
/-- a fresh list into the small heap -/
def eNew (f : IEnv → IH → R (List IV)) : EM := fun env h => (f env h).bind fun xs h1 => .ok (.ref h1.length) (h1 ++ [.lst xs])
/-- the items of a list or a tuple -/
def items (h : IH) : IV → Option (List IV)
  | .tup xs => some xs
  | .fz xs => some xs
  | .ref k => match h[k]? with
    | some (.lst xs) => some xs
    | _ => none
  | _ => none
def qV (f : EM) : IEnv → IH → R (List IV) := fun env h => (f env h).bind fun x h1 => match items h1 x with
  | some xs => .ok xs h1
  | none => .bad
def eTuple (f : IEnv → IH → R (List IV)) : EM := fun env h => (f env h).bind fun xs h1 => .ok (.tup xs) h1
def eLen (f : IEnv → IH → R (List IV)) : EM := fun env h => (f env h).bind fun xs h1 => .ok (.int xs.length) h1

def bAdd : IV → IV → IH → R IV
  | .int i, .int j, h => .ok (.int (i + j)) h
  | .str a, .str b, h => if a.length + b.length ≤ sizeLine then .ok (.str (a ++ b)) h else .bad
  | .tup xs, .tup ys, h => if xs.length + ys.length ≤ sizeLine then .ok (.tup (xs ++ ys)) h else .bad
  | _, _, _ => .bad
def bSub : IV → IV → IH → R IV
  | .int i, .int j, h => .ok (.int (i - j)) h
  | _, _, _ => .bad
def bMul : IV → IV → IH → R IV
  | .int i, .int j, h => if ((-(2 ^ 64) < i ∧ i < 2 ^ 64) ∨ (-(2 ^ 64) < j ∧ j < 2 ^ 64)) ∨ i.natAbs.log2 + j.natAbs.log2 < 1000000 then .ok (.int (i * j)) h else .bad
  | _, _, _ => .bad
def bDiv : IV → IV → IH → R IV
  | .int i, .int j, h => if 0 < j ∧ j.natAbs.log2 < 9000 then .ok (.int (i / j)) h else .bad
  | _, _, _ => .bad
def bMod : IV → IV → IH → R IV
  | .int i, .int j, h => if 0 < j then .ok (.int (i % j)) h else .bad
  | _, _, _ => .bad
def bPow : IV → IV → IH → R IV
  | .int i, .int j, h => if 0 ≤ j ∧ j ≤ 1000000 ∧ i.natAbs < 2 ^ 64 then .ok (.int (i ^ j.toNat)) h else .bad
  | _, _, _ => .bad
def uNeg : IV → IH → R IV
  | .int i, h => .ok (.int (-i)) h
  | _, _ => .bad
def bIx : IV → IV → IH → R IV
  | x, .int i, h => match items h x with
    | some xs => match atI xs i with
      | some v => .ok v h
      | none => .bad
    | none => .bad
  | _, _, _ => .bad


/-! ### data -/
def optAll {α β : Type} (f : α → Option β) : List α → Option (List β)
  | [] => some []
  | x :: xs => match f x with
    | some y => match optAll f xs with
      | some ys => some (y :: ys)
      | none => none
    | none => none
def toD (h : IH) : Nat → IV → Option PyData
  | 0, _ => none
  | n + 1, x => match x with
    | .non => some .none
    | .bl b => some (.bool b)
    | .int i => some (.int i)
    | .str s => some (.str s)
    | .fz xs => (optAll (toD h n) xs).map .list
    | .ref k => match h[k]? with
      | some (.lst xs) => (optAll (toD h n) xs).map .list
      | _ => none
    | .tup xs => (optAll (toD h n) xs).map .tuple
/-- both as data that may be compared -/
def twoD (x y : IV) (h : IH) (f : PyData → PyData → R IV) : R IV := match toD h 66 x, toD h 66 y with
  | some d, some e => if SeqAt.shaped d = true ∧ SeqAt.shaped e = true then f d e else .bad
  | _, _ => .bad
def cEq : IV → IV → IH → R IV
  | .int i, .int j, h => .ok (.bl (decide (i = j))) h
  | .str a, .str b, h => .ok (.bl (a == b)) h
  | x, y, h => twoD x y h fun d e => .ok (.bl (PyData.eqv d e)) h
def cNe : IV → IV → IH → R IV
  | .int i, .int j, h => .ok (.bl (!decide (i = j))) h
  | .str a, .str b, h => .ok (.bl (!(a == b))) h
  | x, y, h => twoD x y h fun d e => .ok (.bl (!PyData.eqv d e)) h
/-- the ints that stand in a row -/
def intsOf (xs : List IV) : Option (List Int) := optAll (fun x => match x with
  | .int i => some i
  | _ => none) xs
def cLt : IV → IV → IH → R IV
  | .int i, .int j, h => .ok (.bl (decide (i < j))) h
  | .tup xs, .tup ys, h => match intsOf xs, intsOf ys with
    | some ns, some ms => .ok (.bl (HT.lexLt ns ms)) h
    | _, _ => .bad
  | _, _, _ => .bad
def cLe : IV → IV → IH → R IV
  | .int i, .int j, h => .ok (.bl (decide (i ≤ j))) h
  | _, _, _ => .bad
def cGt : IV → IV → IH → R IV
  | .int i, .int j, h => .ok (.bl (decide (j < i))) h
  | _, _, _ => .bad
def cGe : IV → IV → IH → R IV
  | .int i, .int j, h => .ok (.bl (decide (j ≤ i))) h
  | _, _, _ => .bad
def isN : IV → Bool
  | .non => true
  | _ => false
def cIs : IV → IV → IH → R IV
  | x, .non, h => .ok (.bl (isN x)) h
  | .bl a, .bl b, h => .ok (.bl (decide (a = b))) h
  | _, _, _ => .bad
def cIsnt : IV → IV → IH → R IV
  | x, .non, h => .ok (.bl (!isN x)) h
  | .bl a, .bl b, h => .ok (.bl (!decide (a = b))) h
  | _, _, _ => .bad
def flat : IV → Bool
  | .non => true
  | .bl _ => true
  | .int _ => true
  | .str _ => true
  | _ => false
def eqF : IV → IV → Bool
  | .non, .non => true
  | .bl a, .bl b => a == b
  | .bl a, .int b => (if a then 1 else 0) == b
  | .int a, .bl b => a == (if b then 1 else 0)
  | .int a, .int b => a == b
  | .str a, .str b => a == b
  | _, _ => false
def memB (x : IV) (xs : List IV) : Bool := xs.any fun y => eqF y x
def inItems (x y : IV) (h : IH) (f : Bool → R IV) : R IV := match items h y with
  | some xs => if flat x = true ∧ xs.all flat = true then f (memB x xs) else twoD x y h fun d e => match e with
      | .list ds => f (ds.any fun z => PyData.eqv z d)
      | _ => .bad
  | none => match x, y with
    | .str a, .str b => f (!(Builtin.Str.occurrences b a 0 b.length 1).isEmpty)
    | _, _ => .bad
def cIn : IV → IV → IH → R IV := fun x y h => inItems x y h fun b => .ok (.bl b) h
def cNin : IV → IV → IH → R IV := fun x y h => inItems x y h fun b => .ok (.bl (!b)) h

/-! ### tests -/
def toB (f : EM) : IEnv → IH → R Bool := fun env h => (f env h).bind fun x h1 => match x with
  | .bl b => .ok b h1
  | _ => .bad
def tAndM (f g : IEnv → IH → R Bool) : IEnv → IH → R Bool := fun env h => (f env h).bind fun b h1 => if b = true then g env h1 else .ok false h1
def tOrM (f g : IEnv → IH → R Bool) : IEnv → IH → R Bool := fun env h => (f env h).bind fun b h1 => if b = true then .ok true h1 else g env h1
def tNotM (f : IEnv → IH → R Bool) : IEnv → IH → R Bool := fun env h => (f env h).bind fun b h1 => .ok (!b) h1
/-- a bool as a value, by a test's answer -/
def vB (f : IEnv → IH → R Bool) : EM := fun env h => (f env h).bind fun b h1 => .ok (.bl b) h1
def eAnd (f g : EM) : EM := fun env h => (f env h).bind fun x h1 => match x with
  | .bl b => if b = true then g env h1 else .ok (.bl false) h1
  | _ => .bad
def eOr (f g : EM) : EM := fun env h => (f env h).bind fun x h1 => match x with
  | .bl b => if b = true then .ok (.bl true) h1 else g env h1
  | _ => .bad
def eNot (f : EM) : EM := fun env h => (f env h).bind fun x h1 => match x with
  | .bl b => .ok (.bl (!b)) h1
  | _ => .bad
def eIf (c : IEnv → IH → R Bool) (f g : EM) : EM := fun env h => (c env h).bind fun b h1 => if b = true then f env h1 else g env h1
def eChain (o o' : IV → IV → IH → R IV) (f g k : EM) : EM := fun env h => (f env h).bind fun x h1 => (g env h1).bind fun y h2 => (o x y h2).bind fun z h3 => match z with
  | .bl b => if b = true then (k env h3).bind fun w h4 => o' y w h4 else .ok (.bl false) h3
  | _ => .bad
/-- the truth of a value -/
def truth : IV → IH → R Bool
  | .non, h => .ok false h
  | .bl b, h => .ok b h
  | .int i, h => .ok (i != 0) h
  | .str s, h => if s.length ≤ sizeLine then .ok ((s.length : Int) != 0) h else .bad
  | x, h => match items h x with
    | some xs => .ok (!xs.isEmpty) h
    | none => .bad
def toTru (f : EM) : IEnv → IH → R Bool := fun env h => (f env h).bind truth

/-! ### slices -/
def oN : IEnv → IH → R (Option Int) := fun _ h => .ok none h
def oS (f : EM) : IEnv → IH → R (Option Int) := fun env h => (f env h).bind fun x h1 => match x with
  | .int i => .ok (some i) h1
  | _ => .bad
def cut {α : Type} (xs : List α) (lo hi : Option Int) : List α := (xs.drop (HT.sIx xs.length 0 lo)).take (HT.sIx xs.length xs.length hi - HT.sIx xs.length 0 lo)
/-- a slice of a tuple -/
def eCutT (f : EM) (lo hi : IEnv → IH → R (Option Int)) : EM := fun env h => (f env h).bind fun x h1 => (lo env h1).bind fun l h2 => (hi env h2).bind fun u h3 => match x with
  | .tup xs => .ok (.tup (cut xs l u)) h3
  | _ => .bad
/-- a slice of a list: a fresh list -/
def lCut (f : EM) (lo hi : IEnv → IH → R (Option Int)) : IEnv → IH → R (List IV) := fun env h => (f env h).bind fun x h1 => (lo env h1).bind fun l h2 => (hi env h2).bind fun u h3 => match x with
  | .tup _ => .bad
  | x => match items h3 x with
    | some xs => .ok (cut xs l u) h3
    | none => .bad
/-- list + list, list * int: fresh -/
def lCat (f g : IEnv → IH → R (List IV)) : IEnv → IH → R (List IV) := fun env h => (f env h).bind fun xs h1 => (g env h1).bind fun ys h2 => if xs.length + ys.length ≤ sizeLine then .ok (xs ++ ys) h2 else .bad
def lRep (f : IEnv → IH → R (List IV)) (g : EM) : IEnv → IH → R (List IV) := fun env h => (f env h).bind fun xs h1 => (g env h1).bind fun y h2 => match y with
  | .int k => if -(2 ^ 63) ≤ k ∧ k < 2 ^ 63 ∧ xs.length * k.toNat ≤ sizeLine then .ok (List.replicate k.toNat xs).flatten h2 else .bad
  | _ => .bad
/-- list(..) of a list or a tuple -/
def lOf (f : IEnv → IH → R (List IV)) : IEnv → IH → R (List IV) := f

/-! ### general rules -/
section
variable {X : Cx} {C : Cc} {W : WX}

def OpM (X : Cx) (C : Cc) (g : Value → Value → Sem Value) (o : IV → IV → IH → R IV) : Prop :=
  ∃ r, OpR X g r ∧ ∀ (W : WX) (σ : St) m H h x y u v (Q : VK), SR X.K m H h → VR X.K m H x u → VR X.K m H y v → Post C X.K W σ m H (rV X.K) Q (o x y h) → r u v H Q

theorem m_var {i : Nat} {x : Str} {pos : Pos} (hN : X.N[i]? = some x) (hv : Vis X.env.scope x) (hd : (x == ("__debug__" : Str)) = false) (hcd : (x == ("__classdict__" : Str)) = false) : PE X (.Name x pos) (tE C X.K W (eVar i)) :=
  pe_weak (pe_var hN hv hd hcd) fun σ H Q ⟨m, env, h, er, sr, p⟩ => by
    unfold eVar at p
    cases e : env[i]? with
    | none => rw [e] at p; exact p.elim
    | some o =>
      cases o with
      | none => rw [e] at p; exact p.elim
      | some v =>
        rw [e] at p
        obtain ⟨u, h1, r⟩ := er.at_ i v e
        exact ⟨u, h1, p.here sr r⟩
theorem m_k {e : Expr} {x : IV} {v : V} (he : PE X e (tC v)) (r : ∀ m H, VR X.K m H x v) : PE X e (tE C X.K W (eK x)) :=
  pe_weak he fun σ H Q ⟨m, env, h, er, sr, p⟩ => p.here sr (r m H)
theorem m_int {i : Int} {j pos} : PE X (.Constant (.int i) j pos) (tE C X.K W (eK (.int i))) := m_k pe_int fun _ _ => by simp only [rV, VR]
theorem m_bl {i : Bool} {j pos} : PE X (.Constant (.bool i) j pos) (tE C X.K W (eK (.bl i))) := m_k pe_bl fun _ _ => by simp only [rV, VR]
theorem m_non {j pos} : PE X (.Constant .none j pos) (tE C X.K W (eK .non)) := m_k pe_non fun _ _ => by simp only [rV, VR]
theorem m_str {x : Str} {j pos} : PE X (.Constant (.str x) j pos) (tE C X.K W (eK (.str x))) := m_k pe_str fun _ _ => by simp only [rV, VR]

theorem e2_run {o : IV → IV → IH → R IV} {f g : EM} {r : R2} {σ : St} {H : Hp} {Q : VK} (hr : ∀ m H h x y u v (Q : VK), SR X.K m H h → VR X.K m H x u → VR X.K m H y v → Post C X.K W σ m H (rV X.K) Q (o x y h) → r u v H Q)
    (t : tE C X.K W (e2 o f g) σ H Q) : tOp r (tE C X.K W f) (tE C X.K W g) σ H Q := by
  obtain ⟨m, env, h, er, sr, p⟩ := t
  refine ⟨m, env, h, er, sr, tg_run p fun m1 H1 x h1 u g1 s1 r1 p1 => ?_⟩
  refine ⟨m1, env, h1, er.mono g1, s1, tg_run p1 fun m2 H2 y h2 v g2 s2 r2 p2 => ?_⟩
  exact hr m2 H2 h2 x y u v Q s2 (VR.mono g2 _ _ r1) r2 p2
theorem m_op {op : Operator} {o : IV → IV → IH → R IV} {a b : Expr} {f g : EM} {pos : Pos} (ho : OpM X C (binaryOp op) o) (ha : PE X a (tE C X.K W f)) (hb : PE X b (tE C X.K W g)) : PE X (.BinOp a op b pos) (tE C X.K W (e2 o f g)) := by
  obtain ⟨r, h1, h2⟩ := ho
  exact pe_weak (pe_op h1 ha hb) fun σ H Q t => e2_run (h2 W σ) t

theorem post_int {σ : St} {m : List Addr} {H : Hp} {h : IH} {Q : VK} {i : Int} (s : SR X.K m H h) (p : Post C X.K W σ m H (rV X.K) Q (.ok (.int i) h)) : Q (.int i) H := p.here s (by simp only [rV, VR])
theorem post_bl {σ : St} {m : List Addr} {H : Hp} {h : IH} {Q : VK} {i : Bool} (s : SR X.K m H h) (p : Post C X.K W σ m H (rV X.K) Q (.ok (.bl i) h)) : Q (.bl i) H := p.here s (by simp only [rV, VR])
theorem post_str {σ : St} {m : List Addr} {H : Hp} {h : IH} {Q : VK} {i : Str} (s : SR X.K m H h) (p : Post C X.K W σ m H (rV X.K) Q (.ok (.str i) h)) : Q (.str i) H := p.here s (by simp only [rV, VR])
theorem post_tup {σ : St} {m : List Addr} {H : Hp} {h : IH} {Q : VK} {xs : List IV} {vs : List V} (s : SR X.K m H h) (p : Post C X.K W σ m H (rV X.K) Q (.ok (.tup xs) h)) (r : VRs X.K m H xs vs) {a : Addr} {ob : Obj} (ha : H a = none) (hd : ob.dict = none) : Q (.ref a) (upd H a (.frz ob (.tup vs))) :=
  p m _ _ (Go.laid ha) (s.laid ha) (VR.newTup ha hd r)

theorem om_add : OpM X C (binaryOp .Add) bAdd := by
  refine ⟨_, op_add.or (op_add_str.or op_catN), fun W σ m H h x y u v Q s rx ry p => ?_⟩
  unfold bAdd at p
  split at p
  · simp only [rV, VR] at rx ry
    subst rx; subst ry
    exact .inl ⟨_, _, rfl, rfl, post_int s p⟩
  · simp only [rV, VR] at rx ry
    subst rx; subst ry
    split at p
    · exact .inr (.inl ⟨_, _, rfl, rfl, by assumption, post_str s p⟩)
    · exact p.elim
  · split at p
    · rename_i hz
      simp only [rV, VR] at rx ry
      obtain ⟨a, vs, rfl, ta, ra⟩ := rx
      obtain ⟨b, ws, rfl, tb, rb⟩ := ry
      rw [ra.length, rb.length] at hz
      refine .inr (.inr ⟨a, b, vs, ws, rfl, rfl, ta.sq, tb.sq, hz, fun e => ?_, fun _ e => ?_, fun _ _ q ob hq hd => post_tup s p (VRs.append ra rb) hq hd⟩)
      · refine p.here s ?_
        subst e
        simp only [rV, VR]
        exact ⟨b, ws, rfl, tb, by simpa using VRs.append ra rb⟩
      · refine p.here s ?_
        subst e
        simp only [rV, VR]
        exact ⟨a, vs, rfl, ta, by simpa using VRs.append ra rb⟩
    · exact p.elim
  · exact p.elim
theorem om_sub : OpM X C (binaryOp .Sub) bSub := by
  refine ⟨_, op_sub, fun W σ m H h x y u v Q s rx ry p => ?_⟩
  unfold bSub at p
  split at p
  · simp only [rV, VR] at rx ry
    subst rx; subst ry
    exact ⟨_, _, rfl, rfl, post_int s p⟩
  · exact p.elim
theorem om_mod : OpM X C (binaryOp .Mod) bMod := by
  refine ⟨_, op_mod, fun W σ m H h x y u v Q s rx ry p => ?_⟩
  unfold bMod at p
  split at p
  · simp only [rV, VR] at rx ry
    subst rx; subst ry
    split at p
    · exact ⟨_, _, rfl, rfl, by assumption, post_int s p⟩
    · exact p.elim
  · exact p.elim
theorem om_pow : OpM X C (binaryOp .Pow) bPow := by
  refine ⟨_, op_pow, fun W σ m H h x y u v Q s rx ry p => ?_⟩
  unfold bPow at p
  split at p
  · simp only [rV, VR] at rx ry
    subst rx; subst ry
    split at p
    · exact ⟨_, _, rfl, rfl, by assumption, post_int s p⟩
    · exact p.elim
  · exact p.elim

/-! ### data -/
theorem optAll_cons {α β : Type} {f : α → Option β} {x : α} {xs : List α} {r : List β} (h : optAll f (x :: xs) = some r) : ∃ y ys, f x = some y ∧ optAll f xs = some ys ∧ r = y :: ys := by
  unfold optAll at h
  split at h
  · rename_i y hy
    split at h
    · rename_i ys hys
      cases h
      exact ⟨y, ys, hy, hys, rfl⟩
    · cases h
  · cases h
theorem dp_ints {K : PySem.W.Frag} {H : Hp} : ∀ (ns : List Int), DpAll K H (ns.map V.int) (ns.map PyData.int)
  | [] => .nil
  | n :: ns => .cons (.int n) (dp_ints ns)
theorem toD_dp {K : PySem.W.Frag} {m : List Addr} {H : Hp} {h : IH} (s : SR K m H h) : ∀ (n : Nat) (x : IV) (v : V) (d : PyData), VR K m H x v → toD h n x = some d → Dp K H v d
  | 0, _, _, _, _, e => by cases e
  | n + 1, x, v, d, r, e => by
    have all : ∀ (xs : List IV) (vs : List V) (ds : List PyData), VRs K m H xs vs → optAll (toD h n) xs = some ds → DpAll K H vs ds := by
      intro xs
      induction xs with
      | nil =>
        intro vs ds r e
        simp only [rVs, VRs] at r
        subst r
        cases e
        exact .nil
      | cons y ys ih =>
        intro vs ds r e
        simp only [rVs, VRs] at r
        obtain ⟨u, q, rfl, r1, r2⟩ := r
        obtain ⟨d1, d2, e1, e2, rfl⟩ := optAll_cons e
        exact .cons (toD_dp s n y u d1 r1 e1) (ih _ _ r2 e2)
    cases x with
    | non => simp only [rV, VR] at r; subst r; cases e; exact .non
    | bl b => simp only [rV, VR] at r; subst r; cases e; exact .bl b
    | int i => simp only [rV, VR] at r; subst r; cases e; exact .int i
    | str x => simp only [rV, VR] at r; subst r; cases e; exact .str x
    | fz xs =>
      simp only [rV, VR] at r
      obtain ⟨a, vs, rfl, q, rr⟩ := r
      simp only [toD] at e
      cases hd : optAll (toD h n) xs with
      | none => rw [hd] at e; cases e
      | some ds =>
        rw [hd] at e; cases e
        exact .lst q.list (all _ _ _ rr hd)
    | ref k =>
      simp only [rV, VR] at r
      obtain ⟨a, e1, rfl⟩ := r
      simp only [toD] at e
      split at e
      · rename_i xs hk
        obtain ⟨a', vs, e2, q, rr⟩ := s.get hk
        rw [e1] at e2; cases e2
        cases hd : optAll (toD h n) xs with
        | none => rw [hd] at e; cases e
        | some ds =>
          rw [hd] at e; cases e
          exact .lst (.of q) (all _ _ _ rr hd)
      · cases e
    | tup xs =>
      simp only [rV, VR] at r
      obtain ⟨a, vs, rfl, t, rr⟩ := r
      simp only [toD] at e
      cases hd : optAll (toD h n) xs with
      | none => rw [hd] at e; cases e
      | some ds =>
        rw [hd] at e; cases e
        exact .tup t.sq (all _ _ _ rr hd)
/-- the items of a list or tuple, read -/
theorem items_rd {K : PySem.W.Frag} {m : List Addr} {H : Hp} {h : IH} (s : SR K m H h) {x : IV} {v : V} {xs : List IV} (r : VR K m H x v) (e : items h x = some xs) :
    ∃ a vs, v = .ref a ∧ (SqL K H a vs ∨ SqN K H a vs) ∧ VRs K m H xs vs := by
  cases x with
  | tup ys =>
    simp only [rV, VR] at r
    obtain ⟨a, vs, rfl, t, rr⟩ := r
    cases e
    exact ⟨a, vs, rfl, .inr t, rr⟩
  | fz xs =>
    simp only [rV, VR] at r
    obtain ⟨a, vs, rfl, q, rr⟩ := r
    cases e
    exact ⟨a, _, rfl, .inl q.list, rr⟩
  | ref k =>
    simp only [rV, VR] at r
    obtain ⟨a, e1, rfl⟩ := r
    simp only [items] at e
    split at e
    · rename_i ys hk
      cases e
      obtain ⟨a', vs, e2, q, rr⟩ := s.get hk
      rw [e1] at e2; cases e2
      exact ⟨a, vs, rfl, .inl (.of q), rr⟩
    · cases e
  | non => cases e
  | bl _ => cases e
  | int _ => cases e
  | str _ => cases e
theorem pe_qV {e : Expr} {f : EM} (he : PE X e (tE C X.K W f)) : PE X e (tSq C X.K W (qV f)) :=
  pe_weak he fun σ H Q ⟨m, env, h, er, sr, p⟩ => ⟨m, env, h, er, sr, tg_run p fun m1 H1 x h1 u g1 s1 r1 p1 => by
    cases hi : items h1 x with
    | none => rw [hi] at p1; exact p1.elim
    | some xs =>
      rw [hi] at p1
      exact p1.here s1 (items_rd s1 r1 hi)⟩
theorem pe_qL {e : Expr} {f : IEnv → IH → R (List IV)} (he : PE X e (tL C X.K W f)) : PE X e (tSq C X.K W f) :=
  pe_weak he fun σ H Q ⟨m, env, h, er, sr, p⟩ => ⟨m, env, h, er, sr, by
    cases hf : f env h with
    | ok xs h1 =>
      rw [hf] at p
      exact fun m1 H1 u g1 s1 ⟨a, vs, e, n, _, q, rr⟩ => p m1 H1 u g1 s1 ⟨a, vs, e, .inl (.of q), rr⟩
    | exc x h1 => rw [hf] at p; exact p
    | bad => rw [hf] at p; exact p⟩

/-! ### comparisons -/
theorem two_run {σ : St} {m : List Addr} {H : Hp} {h : IH} {Q : VK} {x y : IV} {u v : V} {f : PyData → PyData → R IV} (s : SR X.K m H h) (rx : VR X.K m H x u) (ry : VR X.K m H y v) (p : Post C X.K W σ m H (rV X.K) Q (twoD x y h f)) :
    ∃ d e, Dp X.K H u d ∧ Dp X.K H v e ∧ SeqAt.shaped d = true ∧ SeqAt.shaped e = true ∧ Post C X.K W σ m H (rV X.K) Q (f d e) := by
  unfold twoD at p
  split at p
  · rename_i d e hd he
    split at p
    · rename_i hs
      exact ⟨d, e, toD_dp s _ _ _ _ rx hd, toD_dp s _ _ _ _ ry he, hs.1, hs.2, p⟩
    · exact p.elim
  · exact p.elim
theorem om_eq (hu : X.A.units + 64 < cLine) : OpM X C (compareOp .Eq) cEq := by
  refine ⟨_, op_eq.or (op_eqD hu), fun W σ m H h x y u v Q s rx ry p => ?_⟩
  unfold cEq at p
  split at p
  · simp only [rV, VR] at rx ry
    subst rx; subst ry
    refine .inl ⟨rfl, ?_⟩
    rw [dec_int, Bool.beq_eq_decide_eq]
    exact post_bl s p
  · simp only [rV, VR] at rx ry
    subst rx; subst ry
    refine .inl ⟨rfl, ?_⟩
    rw [dec_str]
    exact post_bl s p
  · obtain ⟨d, e, hd, he, s1, s2, p2⟩ := two_run s rx ry p
    exact .inr ⟨d, e, hd, he, s1, s2, post_bl s p2⟩
theorem om_ne (hu : X.A.units + 64 < cLine) : OpM X C (compareOp .NotEq) cNe := by
  refine ⟨_, op_ne.or (op_neD hu), fun W σ m H h x y u v Q s rx ry p => ?_⟩
  unfold cNe at p
  split at p
  · simp only [rV, VR] at rx ry
    subst rx; subst ry
    refine .inl ⟨rfl, ?_⟩
    rw [dec_int, Bool.beq_eq_decide_eq]
    exact post_bl s p
  · simp only [rV, VR] at rx ry
    subst rx; subst ry
    refine .inl ⟨rfl, ?_⟩
    rw [dec_str]
    exact post_bl s p
  · obtain ⟨d, e, hd, he, s1, s2, p2⟩ := two_run s rx ry p
    exact .inr ⟨d, e, hd, he, s1, s2, post_bl s p2⟩
theorem intsOf_map : ∀ {xs : List IV} {ns : List Int}, intsOf xs = some ns → xs = ns.map IV.int
  | [], ns, e => by cases e; rfl
  | x :: xs, ns, e => by
    obtain ⟨y, ys, e1, e2, rfl⟩ := optAll_cons e
    have ih := intsOf_map (xs := xs) (ns := ys) e2
    cases x with
    | int i => cases e1; rw [ih]; rfl
    | non => cases e1
    | bl _ => cases e1
    | str _ => cases e1
    | fz _ => cases e1
    | ref _ => cases e1
    | tup _ => cases e1
theorem om_lt (hu : X.A.units < cLine) : OpM X C (compareOp .Lt) cLt := by
  refine ⟨_, op_lt.or (op_ltT hu), fun W σ m H h x y u v Q s rx ry p => ?_⟩
  unfold cLt at p
  split at p
  · simp only [rV, VR] at rx ry
    subst rx; subst ry
    exact .inl ⟨_, _, rfl, rfl, post_bl s p⟩
  · split at p
    · rename_i ns ms hn hm
      simp only [rV, VR] at rx ry
      obtain ⟨a, vs, rfl, t1, r1⟩ := rx
      obtain ⟨b, ws, rfl, t2, r2⟩ := ry
      rw [intsOf_map hn] at r1
      rw [intsOf_map hm] at r2
      rw [VRs.ints r1] at t1
      rw [VRs.ints r2] at t2
      exact .inr ⟨a, b, ns, ms, rfl, rfl, t1.sq, t2.sq, post_bl s p⟩
    · exact p.elim
  · exact p.elim
theorem om_le : OpM X C (compareOp .LtE) cLe := by
  refine ⟨_, op_le, fun W σ m H h x y u v Q s rx ry p => ?_⟩
  unfold cLe at p
  split at p
  · simp only [rV, VR] at rx ry
    subst rx; subst ry
    exact ⟨_, _, rfl, rfl, post_bl s p⟩
  · exact p.elim
theorem om_gt : OpM X C (compareOp .Gt) cGt := by
  refine ⟨_, op_gt, fun W σ m H h x y u v Q s rx ry p => ?_⟩
  unfold cGt at p
  split at p
  · simp only [rV, VR] at rx ry
    subst rx; subst ry
    exact ⟨_, _, rfl, rfl, post_bl s p⟩
  · exact p.elim
theorem om_ge : OpM X C (compareOp .GtE) cGe := by
  refine ⟨_, op_ge, fun W σ m H h x y u v Q s rx ry p => ?_⟩
  unfold cGe at p
  split at p
  · simp only [rV, VR] at rx ry
    subst rx; subst ry
    exact ⟨_, _, rfl, rfl, post_bl s p⟩
  · exact p.elim
theorem isN_of {K : PySem.W.Frag} {m : List Addr} {H : Hp} {x : IV} {u : V} (r : VR K m H x u) : decide (u = V.non) = isN x := by
  cases x <;> simp only [rV, VR] at r
  case non => subst r; rfl
  case bl => subst r; rfl
  case int => subst r; rfl
  case str => subst r; rfl
  case fz => obtain ⟨a, _, rfl, _⟩ := r; rfl
  case ref => obtain ⟨a, _, rfl⟩ := r; rfl
  case tup => obtain ⟨a, _, rfl, _⟩ := r; rfl
theorem om_is : OpM X C (compareOp .Is) cIs := by
  refine ⟨_, op_isN.or op_isBl, fun W σ m H h x y u v Q s rx ry p => ?_⟩
  unfold cIs at p
  split at p
  · have e := isN_of rx
    simp only [rV, VR] at ry
    refine .inl ⟨ry, ?_⟩
    rw [e]
    exact post_bl s p
  · simp only [rV, VR] at rx ry
    subst rx; subst ry
    exact .inr ⟨_, _, rfl, rfl, post_bl s p⟩
  · exact p.elim
theorem om_isnt : OpM X C (compareOp .IsNot) cIsnt := by
  refine ⟨_, op_notN.or op_notBl, fun W σ m H h x y u v Q s rx ry p => ?_⟩
  unfold cIsnt at p
  split at p
  · have e := isN_of rx
    simp only [rV, VR] at ry
    refine .inl ⟨ry, ?_⟩
    rw [e]
    exact post_bl s p
  · simp only [rV, VR] at rx ry
    subst rx; subst ry
    exact .inr ⟨_, _, rfl, rfl, post_bl s p⟩
  · exact p.elim
theorem flat_of {K : PySem.W.Frag} {m : List Addr} {H : Hp} {x : IV} {u : V} (r : VR K m H x u) (f : flat x = true) : flatV u = true := by
  cases x <;> simp only [rV, VR] at r <;> first | (subst r; rfl) | cases f
theorem flats_of {K : PySem.W.Frag} {m : List Addr} {H : Hp} : ∀ {xs : List IV} {us : List V}, VRs K m H xs us → xs.all flat = true → us.all flatV = true
  | [], _, r, _ => by simp only [rVs, VRs] at r; subst r; rfl
  | x :: xs, _, r, f => by
    simp only [rVs, VRs] at r
    obtain ⟨v, q, rfl, r1, r2⟩ := r
    simp only [List.all_cons, Bool.and_eq_true] at f ⊢
    exact ⟨flat_of r1 f.1, flats_of r2 f.2⟩
theorem eqF_of {K : PySem.W.Frag} {m : List Addr} {H : Hp} {x y : IV} {u v : V} (r : VR K m H x u) (r' : VR K m H y v) (f : flat x = true) (f' : flat y = true) : eqV u v = eqF x y := by
  cases x <;> first | cases f | skip
  all_goals (cases y <;> first | cases f' | skip)
  all_goals (simp only [rV, VR] at r r'; subst r; subst r'; rfl)
theorem memB_of {K : PySem.W.Frag} {m : List Addr} {H : Hp} {x : IV} {u : V} (r : VR K m H x u) (f : flat x = true) : ∀ {xs : List IV} {us : List V}, VRs K m H xs us → xs.all flat = true → inV u us = memB x xs
  | [], _, r', _ => by simp only [rVs, VRs] at r'; subst r'; rfl
  | y :: xs, _, r', f' => by
    simp only [rVs, VRs] at r'
    obtain ⟨v, q, rfl, r1, r2⟩ := r'
    simp only [List.all_cons, Bool.and_eq_true] at f'
    have ih := memB_of r f r2 f'.2
    unfold inV memB at *
    simp only [List.any_cons, ih, eqF_of r1 r f'.1 f]
theorem in_run {σ : St} {m : List Addr} {H : Hp} {h : IH} {Q : VK} {x y : IV} {u v : V} {f : Bool → Bool} (s : SR X.K m H h) (rx : VR X.K m H x u) (ry : VR X.K m H y v) (p : Post C X.K W σ m H (rV X.K) Q (inItems x y h fun b => .ok (.bl (f b)) h)) :
    (∃ a us, v = .ref a ∧ (SqL X.K H a us ∨ SqT X.K H a us) ∧ flatV u = true ∧ us.all flatV = true ∧ Q (.bl (f (inV u us))) H) ∨
    (∃ d ds, Dp X.K H u d ∧ Dp X.K H v (.list ds) ∧ SeqAt.shaped d = true ∧ SeqAt.shaped (.list ds) = true ∧ Q (.bl (f (ds.any fun z => PyData.eqv z d))) H) ∨
    (∃ i j, u = .str i ∧ v = .str j ∧ Q (.bl (f (!(Builtin.Str.occurrences j i 0 j.length 1).isEmpty))) H) := by
  unfold inItems at p
  cases hi : items h y with
  | some xs =>
    rw [hi] at p
    simp only at p
    split at p
    · rename_i hf
      obtain ⟨a, us, rfl, q, rr⟩ := items_rd s ry hi
      refine .inl ⟨a, us, rfl, q.imp id SqN.sq, flat_of rx hf.1, flats_of rr hf.2, ?_⟩
      rw [memB_of rx hf.1 rr hf.2]
      exact post_bl s p
    · obtain ⟨d, e, hd, he, s1, s2, p2⟩ := two_run s rx ry p
      split at p2
      · exact .inr (.inl ⟨d, _, hd, he, s1, s2, post_bl s p2⟩)
      · exact p2.elim
  | none =>
    rw [hi] at p
    simp only at p
    split at p
    · simp only [rV, VR] at rx ry
      subst rx; subst ry
      exact .inr (.inr ⟨_, _, rfl, rfl, post_bl s p⟩)
    · exact p.elim
theorem om_in (hu : X.A.units + 65 < cLine) : OpM X C (compareOp .In) cIn := by
  refine ⟨_, op_in_seq.or ((op_inD hu).or op_in_str), fun W σ m H h x y u v Q s rx ry p => ?_⟩
  rcases in_run (f := fun b => b) s rx ry p with ⟨a, us, rfl, q, f1, f2, z⟩ | ⟨d, ds, z⟩ | ⟨i, j, z⟩
  · exact .inl ⟨a, us, rfl, q, f1, f2, z⟩
  · exact .inr (.inl ⟨d, ds, z⟩)
  · exact .inr (.inr ⟨i, j, z⟩)
theorem om_nin (hu : X.A.units + 65 < cLine) : OpM X C (compareOp .NotIn) cNin := by
  refine ⟨_, op_notIn_seq.or ((op_notInD hu).or op_notIn_str), fun W σ m H h x y u v Q s rx ry p => ?_⟩
  rcases in_run (f := fun b => !b) s rx ry p with ⟨a, us, rfl, q, f1, f2, z⟩ | ⟨d, ds, z⟩ | ⟨i, j, z⟩
  · exact .inl ⟨a, us, rfl, q, f1, f2, z⟩
  · exact .inr (.inl ⟨d, ds, z⟩)
  · exact .inr (.inr ⟨i, j, z⟩)
theorem m_cmp {op : CmpOp} {o : IV → IV → IH → R IV} {a b : Expr} {f g : EM} {pos : Pos} (ho : OpM X C (compareOp op) o) (ha : PE X a (tE C X.K W f)) (hb : PE X b (tE C X.K W g)) (hm : behindInMarks op b = false) :
    PE X (.Compare a [op] [b] pos) (tE C X.K W (e2 o f g)) := by
  obtain ⟨r, h1, h2⟩ := ho
  exact pe_weak (pe_cmpR h1 ha hb hm) fun σ H Q t => e2_run (h2 W σ) t
theorem toB_run {t : TE} {f : EM} (w : ∀ σ H Q, tE C X.K W f σ H Q → t σ H Q) (σ : St) (H : Hp) (Q : Bool → Hp → Prop) (q : tT C X.K W (toB f) σ H Q) : tTest t σ H Q := by
  obtain ⟨m, env, h, er, sr, p⟩ := q
  refine w _ _ _ ⟨m, env, h, er, sr, tg_run p fun m1 H1 x h1 u g1 s1 r1 p1 => ?_⟩
  cases x <;> first | exact p1.elim | skip
  simp only [rV, VR] at r1
  subst r1
  exact ⟨_, rfl, p1.here s1 rfl⟩
theorem m_cmpT {op : CmpOp} {o : IV → IV → IH → R IV} {a b : Expr} {f g : EM} {pos : Pos} (ho : OpM X C (compareOp op) o) (ha : PE X a (tE C X.K W f)) (hb : PE X b (tE C X.K W g)) (hm : behindInMarks op b = false) :
    PT X (.Compare a [op] [b] pos) (tT C X.K W (toB (e2 o f g))) := by
  obtain ⟨r, h1, h2⟩ := ho
  exact pt_weak (pt_cmpR h1 ha hb hm) (toB_run fun σ H Q t => e2_run (h2 W σ) t)
theorem m_valT {e : Expr} {f : EM} (h : PE X e (tE C X.K W f)) (he : ∀ whole, isTrue e X.env whole = (do let v ← whole; standAt e.pos; holding [v] (truthy v))) : PT X e (tT C X.K W (toB f)) :=
  pt_weak (pt_val h he) (toB_run fun _ _ _ t => t)
theorem chain_run {o o' : IV → IV → IH → R IV} {f g k : EM} {r r' : R2} {σ : St} {H : Hp} {Q : VK}
    (hr : ∀ m H h x y u v (Q : VK), SR X.K m H h → VR X.K m H x u → VR X.K m H y v → Post C X.K W σ m H (rV X.K) Q (o x y h) → r u v H Q)
    (hr' : ∀ m H h x y u v (Q : VK), SR X.K m H h → VR X.K m H x u → VR X.K m H y v → Post C X.K W σ m H (rV X.K) Q (o' x y h) → r' u v H Q)
    (t : tE C X.K W (eChain o o' f g k) σ H Q) : tChain r r' (tE C X.K W f) (tE C X.K W g) (tE C X.K W k) σ H Q := by
  obtain ⟨m, env, h, er, sr, p⟩ := t
  refine ⟨m, env, h, er, sr, tg_run p fun m1 H1 x h1 u g1 s1 r1 p1 => ?_⟩
  refine ⟨m1, env, h1, er.mono g1, s1, tg_run p1 fun m2 H2 y h2 v g2 s2 r2 p2 => ?_⟩
  refine hr m2 H2 h2 x y u v _ s2 (VR.mono g2 _ _ r1) r2 (tg_run p2 fun m3 H3 z h3 w g3 s3 r3 p3 => ?_)
  cases z <;> first | exact p3.elim | skip
  rename_i b
  simp only [rV, VR] at r3
  subst r3
  refine ⟨b, rfl, ?_⟩
  cases b with
  | true =>
    refine iteT ⟨m3, env, h3, (er.mono g1).mono (g2.trans g3), s3, tg_run p3 fun m4 H4 z4 h4 w4 g4 s4 r4 p4 => ?_⟩
    exact hr' m4 H4 h4 y z4 v w4 Q s4 (VR.mono (g3.trans g4) _ _ r2) r4 p4
  | false => exact iteF (post_bl s3 p3)
theorem m_chain {op op' : CmpOp} {o o' : IV → IV → IH → R IV} {a b c : Expr} {f g k : EM} {pos : Pos} (ho : OpM X C (compareOp op) o) (ho' : OpM X C (compareOp op') o') (ha : PE X a (tE C X.K W f)) (hb : PE X b (tE C X.K W g))
    (hc : PE X c (tE C X.K W k)) (hm : lastMarks [op, op'] [b, c] = false) : PE X (.Compare a [op, op'] [b, c] pos) (tE C X.K W (eChain o o' f g k)) := by
  obtain ⟨r, h1, h2⟩ := ho
  obtain ⟨r', h1', h2'⟩ := ho'
  exact pe_weak (pe_chain h1 h1' ha hb hc hm) fun σ H Q t => chain_run (h2 W σ) (h2' W σ) t
theorem m_chainT {op op' : CmpOp} {o o' : IV → IV → IH → R IV} {a b c : Expr} {f g k : EM} {pos : Pos} (ho : OpM X C (compareOp op) o) (ho' : OpM X C (compareOp op') o') (ha : PE X a (tE C X.K W f)) (hb : PE X b (tE C X.K W g))
    (hc : PE X c (tE C X.K W k)) (hm : lastMarks [op, op'] [b, c] = false) : PT X (.Compare a [op, op'] [b, c] pos) (tT C X.K W (toB (eChain o o' f g k))) := by
  obtain ⟨r, h1, h2⟩ := ho
  obtain ⟨r', h1', h2'⟩ := ho'
  exact pt_weak (pt_chain h1 h1' ha hb hc hm) (toB_run fun σ H Q t => chain_run (h2 W σ) (h2' W σ) t)

/-! ### and, or, not, if -/
theorem m_andT {a b : Expr} {rest : List Expr} {f g : IEnv → IH → R Bool} {pos : Pos} (ha : PT X a (tT C X.K W f)) (hb : PW X (.BoolOp .And (b :: rest) pos) (tT C X.K W g)) : PW X (.BoolOp .And (a :: b :: rest) pos) (tT C X.K W (tAndM f g)) :=
  pw_weak (pw_and ha hb) fun σ H Q ⟨m, env, h, er, sr, p⟩ => ⟨m, env, h, er, sr, tg_run p fun m1 H1 x h1 u g1 s1 r1 p1 => by
    subst r1
    cases x with
    | true => exact iteT ⟨m1, env, h1, er.mono g1, s1, p1⟩
    | false => exact iteF (p1.here s1 rfl)⟩
theorem m_orT {a b : Expr} {rest : List Expr} {f g : IEnv → IH → R Bool} {pos : Pos} (ha : PT X a (tT C X.K W f)) (hb : PW X (.BoolOp .Or (b :: rest) pos) (tT C X.K W g)) : PW X (.BoolOp .Or (a :: b :: rest) pos) (tT C X.K W (tOrM f g)) :=
  pw_weak (pw_or ha hb) fun σ H Q ⟨m, env, h, er, sr, p⟩ => ⟨m, env, h, er, sr, tg_run p fun m1 H1 x h1 u g1 s1 r1 p1 => by
    subst r1
    cases x with
    | true => exact iteT (p1.here s1 rfl)
    | false => exact iteF ⟨m1, env, h1, er.mono g1, s1, p1⟩⟩
theorem m_notT {a : Expr} {f : IEnv → IH → R Bool} {pos : Pos} (ha : PT X a (tT C X.K W f)) : PT X (.UnaryOp .Not a pos) (tT C X.K W (tNotM f)) :=
  pt_weak (pt_not ha) fun σ H Q ⟨m, env, h, er, sr, p⟩ => ⟨m, env, h, er, sr, tg_run p fun m1 H1 x h1 u g1 s1 r1 p1 => by
    subst r1
    exact p1.here s1 rfl⟩
theorem m_and {a b : Expr} {rest : List Expr} {f g : EM} {pos : Pos} (ha : PE X a (tE C X.K W f)) (hb : PE X (.BoolOp .And (b :: rest) pos) (tE C X.K W g)) : PE X (.BoolOp .And (a :: b :: rest) pos) (tE C X.K W (eAnd f g)) :=
  pe_weak (pe_and ha hb) fun σ H Q ⟨m, env, h, er, sr, p⟩ => ⟨m, env, h, er, sr, tg_run p fun m1 H1 x h1 u g1 s1 r1 p1 => by
    cases x <;> first | exact p1.elim | skip
    rename_i b
    simp only [rV, VR] at r1
    subst r1
    refine ⟨b, rfl, ?_⟩
    cases b with
    | true => exact iteT ⟨m1, env, h1, er.mono g1, s1, p1⟩
    | false => exact iteF (post_bl s1 p1)⟩
theorem m_or {a b : Expr} {rest : List Expr} {f g : EM} {pos : Pos} (ha : PE X a (tE C X.K W f)) (hb : PE X (.BoolOp .Or (b :: rest) pos) (tE C X.K W g)) : PE X (.BoolOp .Or (a :: b :: rest) pos) (tE C X.K W (eOr f g)) :=
  pe_weak (pe_or ha hb) fun σ H Q ⟨m, env, h, er, sr, p⟩ => ⟨m, env, h, er, sr, tg_run p fun m1 H1 x h1 u g1 s1 r1 p1 => by
    cases x <;> first | exact p1.elim | skip
    rename_i b
    simp only [rV, VR] at r1
    subst r1
    refine ⟨b, rfl, ?_⟩
    cases b with
    | true => exact iteT (post_bl s1 p1)
    | false => exact iteF ⟨m1, env, h1, er.mono g1, s1, p1⟩⟩
theorem m_not {a : Expr} {f : EM} {pos : Pos} (ha : PE X a (tE C X.K W f)) : PE X (.UnaryOp .Not a pos) (tE C X.K W (eNot f)) :=
  pe_weak (pe_not ha) fun σ H Q ⟨m, env, h, er, sr, p⟩ => ⟨m, env, h, er, sr, tg_run p fun m1 H1 x h1 u g1 s1 r1 p1 => by
    cases x <;> first | exact p1.elim | skip
    rename_i b
    simp only [rV, VR] at r1
    subst r1
    exact ⟨b, rfl, post_bl s1 p1⟩⟩
theorem m_if {c a b : Expr} {t : IEnv → IH → R Bool} {f g : EM} {pos : Pos} (hc : PT X c (tT C X.K W t)) (ha : PE X a (tE C X.K W f)) (hb : PE X b (tE C X.K W g)) : PE X (.IfExp c a b pos) (tE C X.K W (eIf t f g)) :=
  pe_weak (pe_ifExp hc ha hb) fun σ H Q ⟨m, env, h, er, sr, p⟩ => ⟨m, env, h, er, sr, tg_run p fun m1 H1 x h1 u g1 s1 r1 p1 => by
    subst r1
    cases x with
    | true => exact iteT ⟨m1, env, h1, er.mono g1, s1, p1⟩
    | false => exact iteF ⟨m1, env, h1, er.mono g1, s1, p1⟩⟩
theorem m_neg {a : Expr} {f : EM} {pos : Pos} (ha : PE X a (tE C X.K W f)) : PE X (.UnaryOp .USub a pos) (tE C X.K W (e1 uNeg f)) :=
  pe_weak (pe_un un_neg ha) fun σ H Q ⟨m, env, h, er, sr, p⟩ => ⟨m, env, h, er, sr, tg_run p fun m1 H1 x h1 u g1 s1 r1 p1 => by
    cases x <;> first | exact p1.elim | skip
    simp only [rV, VR] at r1
    subst r1
    exact ⟨_, rfl, post_int s1 p1⟩⟩

theorem om_mul : OpM X C (binaryOp .Mult) bMul := by
  refine ⟨_, op_mul.or op_mulW, fun W σ m H h x y u v Q s rx ry p => ?_⟩
  unfold bMul at p
  split at p
  · simp only [rV, VR] at rx ry
    subst rx; subst ry
    split at p
    · rename_i hz
      rcases hz with hz | hz
      · exact .inl ⟨_, _, rfl, rfl, hz, post_int s p⟩
      · exact .inr ⟨_, _, rfl, rfl, hz, post_int s p⟩
    · exact p.elim
  · exact p.elim
theorem om_div : OpM X C (binaryOp .FloorDiv) bDiv := by
  refine ⟨_, op_fdivW, fun W σ m H h x y u v Q s rx ry p => ?_⟩
  unfold bDiv at p
  split at p
  · simp only [rV, VR] at rx ry
    subst rx; subst ry
    split at p
    · exact ⟨_, _, rfl, rfl, by assumption, post_int s p⟩
    · exact p.elim
  · exact p.elim

/-! ### items, slices -/
theorem atI_map {α β : Type} {R : α → β → Prop} {xs : List α} {ys : List β} (hl : xs.length = ys.length) (hg : ∀ (i : Nat) x, xs[i]? = some x → ∃ y, ys[i]? = some y ∧ R x y) {i : Int} {x : α} (h : atI xs i = some x) : ∃ y, atI ys i = some y ∧ R x y := by
  unfold atI at h ⊢
  rw [← hl]
  cases e : ixN xs.length i with
  | none => rw [e] at h; cases h
  | some j =>
    rw [e] at h
    exact hg j x h
theorem VRs.atI {K : PySem.W.Frag} {m : List Addr} {H : Hp} {xs : List IV} {vs : List V} (r : VRs K m H xs vs) {i : Int} {x : IV} (h : L2.atI xs i = some x) : ∃ v, L2.atI vs i = some v ∧ VR K m H x v :=
  atI_map r.length (fun i x e => VRs.get r e) h
theorem ix_run {σ : St} {m : List Addr} {H : Hp} {h : IH} {Q : VK} {x y : IV} {u v : V} (s : SR X.K m H h) (rx : VR X.K m H x u) (ry : VR X.K m H y v) (p : Post C X.K W σ m H (rV X.K) Q (bIx x y h)) : rIxL X.K u v H Q ∨ rIxT X.K u v H Q := by
  unfold bIx at p
  split at p
  · rename_i i
    simp only [rV, VR] at ry
    subst ry
    split at p
    · rename_i xs hi
      split at p
      · rename_i z hz
        obtain ⟨a, us, rfl, q, rr⟩ := items_rd s rx hi
        obtain ⟨w, h1, h2⟩ := rr.atI hz
        rcases q with q | q
        · exact .inl ⟨a, us, i, w, rfl, rfl, q, h1, p.here s h2⟩
        · exact .inr ⟨a, us, i, w, rfl, rfl, q.sq, h1, p.here s h2⟩
      · exact p.elim
    · exact p.elim
  · exact p.elim
theorem m_ix {a b : Expr} {f g : EM} {pos : Pos} (ha : PE X a (tE C X.K W f)) (hb : PE X b (tE C X.K W g)) (hs : PlainIx b) : PE X (.Subscript a b pos) (tE C X.K W (e2 bIx f g)) :=
  pe_weak (pe_ix (ix_list.or ix_tup) ha hb hs) fun σ H Q t => e2_run (fun m H h x y u v Q s rx ry p => ix_run s rx ry p) t
/-- a text by place -/
def bIxS : IV → IV → IH → R IV
  | .str z, .int i, h => if z.length ≤ sizeLine then match atI z.cps.toList i with
    | some c => .ok (.str ⟨#[c]⟩) h
    | none => .bad else .bad
  | _, _, _ => .bad
theorem m_ixS {a b : Expr} {f g : EM} {pos : Pos} (ha : PE X a (tE C X.K W f)) (hb : PE X b (tE C X.K W g)) (hs : PlainIx b) : PE X (.Subscript a b pos) (tE C X.K W (e2 bIxS f g)) :=
  pe_weak (pe_ix ix_str ha hb hs) fun σ H Q t => e2_run (fun m H h x y u v Q s rx ry p => by
    unfold bIxS at p
    split at p
    · simp only [rV, VR] at rx ry
      subst rx; subst ry
      split at p
      · rename_i hz
        split at p
        · rename_i c hc
          exact ⟨_, _, c, rfl, rfl, hz, hc, post_str s p⟩
        · exact p.elim
      · exact p.elim
    · exact p.elim) t
theorem m_oN : PO X none (tOI C X.K W oN) := ⟨fun pins s σ H Q I t => po_none.run pins s σ H Q I (by
    obtain ⟨m, env, h, er, sr, p⟩ := t
    exact p.here sr rfl)⟩
theorem m_oS {e : Expr} {f : EM} (h : PE X e (tE C X.K W f)) : PO X (some e) (tOI C X.K W (oS f)) := ⟨fun pins s σ H Q I t => (po_some h).run pins s σ H Q I (by
    obtain ⟨m, env, h, er, sr, p⟩ := t
    refine ⟨m, env, h, er, sr, tg_run p fun m1 H1 x h1 u g1 s1 r1 p1 => ?_⟩
    cases x <;> first | exact p1.elim | skip
    simp only [rV, VR] at r1
    subst r1
    exact ⟨_, rfl, p1.here s1 rfl⟩)⟩
theorem cut_rel {K : PySem.W.Frag} {m : List Addr} {H : Hp} {xs : List IV} {vs : List V} (r : VRs K m H xs vs) (lo hi : Option Int) : VRs K m H (cut xs lo hi) (cutV vs lo hi) := by
  unfold cut cutV
  rw [← r.length]
  exact VRs.take _ (VRs.drop _ r)
theorem cut_all {α : Type} {xs : List α} {lo hi : Option Int} (h : HT.sIx xs.length 0 lo = 0 ∧ HT.sIx xs.length xs.length hi = xs.length) : cut xs lo hi = xs := by
  unfold cut
  rw [h.1, h.2]
  simp
theorem m_cutT {e : Expr} {lo hi : Option Expr} {f : EM} {l u : IEnv → IH → R (Option Int)} {p2 pos : Pos} (he : PE X e (tE C X.K W f)) (hl : PO X lo (tOI C X.K W l)) (hu : PO X hi (tOI C X.K W u)) :
    PE X (.Subscript e (.Slice lo hi none p2) pos) (tE C X.K W (eCutT f l u)) :=
  pe_weak (pe_slice sl_tupN he hl hu) fun σ H Q ⟨m, env, h, er, sr, p⟩ => ⟨m, env, h, er, sr, tg_run p fun m1 H1 x h1 u1 g1 s1 r1 p1 => ⟨m1, env, h1, er.mono g1, s1, tg_run p1 fun m2 H2 a h2 u2 g2 s2 r2 p2 =>
    ⟨m2, env, h2, (er.mono g1).mono g2, s2, tg_run p2 fun m3 H3 b h3 u3 g3 s3 r3 p3 => by
      subst r2; subst r3
      have r4 := VR.mono (g2.trans g3) _ _ r1
      cases x <;> first | exact p3.elim | skip
      rename_i xs
      simp only [rV, VR] at r4
      obtain ⟨ad, vs, rfl, t, rr⟩ := r4
      refine ⟨ad, vs, rfl, t.sq, fun hw => ?_, fun _ q ob hq hd => post_tup s3 p3 (cut_rel rr a b) hq hd⟩
      refine p3.here s3 ?_
      rw [← rr.length] at hw
      rw [cut_all hw]
      simp only [rV, VR]
      exact ⟨ad, vs, rfl, t, rr⟩⟩⟩⟩
/-- a fresh list's rule: at p stands the list -/
theorem post_lst {σ : St} {m : List Addr} {H : Hp} {h : IH} {Q : VK} {xs : List IV} {vs : List V} (s : SR X.K m H h) (p : Post C X.K W σ m H (rL X.K) Q (.ok xs h)) (r : VRs X.K m H xs vs) {a : Addr} (ha : H a = none) : Q (.ref a) (upd H a (.lst vs)) :=
  p m _ _ (Go.laid ha) (s.laid ha) ⟨a, vs, rfl, s.fresh ha, fun _ => ha, upd_same, VRs.mono (Go.laid ha) _ _ r⟩
theorem m_cutL {e : Expr} {lo hi : Option Expr} {f : EM} {l u : IEnv → IH → R (Option Int)} {p2 pos : Pos} (he : PE X e (tE C X.K W f)) (hl : PO X lo (tOI C X.K W l)) (hu : PO X hi (tOI C X.K W u)) :
    PE X (.Subscript e (.Slice lo hi none p2) pos) (tL C X.K W (lCut f l u)) :=
  pe_weak (pe_slice sl_list he hl hu) fun σ H Q ⟨m, env, h, er, sr, p⟩ => ⟨m, env, h, er, sr, tg_run p fun m1 H1 x h1 u1 g1 s1 r1 p1 => ⟨m1, env, h1, er.mono g1, s1, tg_run p1 fun m2 H2 a h2 u2 g2 s2 r2 p2 =>
    ⟨m2, env, h2, (er.mono g1).mono g2, s2, tg_run p2 fun m3 H3 b h3 u3 g3 s3 r3 p3 => by
      subst r2; subst r3
      have r4 := VR.mono (g2.trans g3) _ _ r1
      have go : ∀ {xs : List IV}, items h3 x = some xs → (∀ ys, x ≠ .tup ys) → Post C X.K W σ m3 H3 (rL X.K) Q (.ok (cut xs a b) h3) → rSlL X.K u1 a b H3 Q := by
        intro xs hi hx p4
        have q : ∃ ad us, u1 = .ref ad ∧ SqL X.K H3 ad us ∧ VRs X.K m3 H3 xs us := by
          cases x with
          | fz ys =>
            simp only [rV, VR] at r4
            obtain ⟨ad, vs, rfl, q, rr⟩ := r4
            cases hi
            exact ⟨ad, _, rfl, q.list, rr⟩
          | ref k =>
            simp only [rV, VR] at r4
            obtain ⟨ad, e1, rfl⟩ := r4
            simp only [items] at hi
            split at hi
            · rename_i ys hk
              cases hi
              obtain ⟨a', vs, e2, q, rr⟩ := s3.get hk
              rw [e1] at e2; cases e2
              exact ⟨ad, vs, rfl, .of q, rr⟩
            · cases hi
          | tup ys => exact absurd rfl (hx ys)
          | non => cases hi
          | bl _ => cases hi
          | int _ => cases hi
          | str _ => cases hi
        obtain ⟨ad, us, rfl, q, rr⟩ := q
        exact ⟨ad, us, rfl, q, fun w hw => post_lst s3 p4 (cut_rel rr a b) hw⟩
      cases x with
      | tup ys => exact p3.elim
      | fz ys => exact go (xs := ys) rfl (fun _ z => by cases z) p3
      | ref k =>
        simp only at p3
        cases hi : items h3 (.ref k) with
        | none => rw [hi] at p3; exact p3.elim
        | some xs => rw [hi] at p3; exact go hi (fun _ z => by cases z) p3
      | non => exact p3.elim
      | bl _ => exact p3.elim
      | int _ => exact p3.elim
      | str _ => exact p3.elim⟩⟩⟩

/-! ### argument lists, displays -/
theorem m_aNil : PA X [] (tA C X.K W aNil) := pa_weak pa_nil fun σ H Q ⟨m, env, h, er, sr, p⟩ => p.here sr (by simp only [rVs, VRs])
theorem m_aCons {e : Expr} {es : List Expr} {f : EM} {g : IEnv → IH → R (List IV)} (ha : PE X e (tE C X.K W f)) (hr : PA X es (tA C X.K W g)) (hs : starEach (e :: es) X.env = (false, eval e X.env) :: starEach es X.env) :
    PA X (e :: es) (tA C X.K W (aCons f g)) :=
  pa_weak (pa_cons ha hr hs) fun σ H Q ⟨m, env, h, er, sr, p⟩ => ⟨m, env, h, er, sr, tg_run p fun m1 H1 x h1 u1 g1 s1 r1 p1 => ⟨m1, env, h1, er.mono g1, s1, tg_run p1 fun m2 H2 a h2 u2 g2 s2 r2 p2 =>
    p2.here s2 (by simp only [rVs, VRs]; exact ⟨u1, u2, rfl, VR.mono g2 _ _ r1, r2⟩)⟩⟩
theorem m_tup {es : List Expr} {f : IEnv → IH → R (List IV)} {x1 : Nat} {pos : Pos} (h : PA X es (tA C X.K W f)) : PE X (.Tuple es x1 pos) (tE C X.K W (eTup f)) :=
  pe_weak (pe_tupN h) fun σ H Q ⟨m, env, h, er, sr, p⟩ => ⟨m, env, h, er, sr, tg_run p fun m1 H1 xs h1 us g1 s1 r1 p1 => by
    split at p1
    · rename_i hz
      exact ⟨by rw [← r1.length]; exact hz, fun q ob hq hd => post_tup s1 p1 r1 hq hd⟩
    · exact p1.elim⟩
theorem m_lst {es : List Expr} {f : IEnv → IH → R (List IV)} {pos : Pos} (h : PA X es (tA C X.K W f)) : PE X (.List es pos) (tL C X.K W (lLst f)) :=
  pe_weak (pe_lst h) fun σ H Q ⟨m, env, h, er, sr, p⟩ => ⟨m, env, h, er, sr, tg_run p fun m1 H1 xs h1 us g1 s1 r1 p1 => by
    split at p1
    · rename_i hz
      exact ⟨by rw [← r1.length]; exact hz, fun q hq => post_lst s1 p1 r1 hq⟩
    · exact p1.elim⟩
/-- a fresh list becomes one of the small heap -/
theorem new_post {σ : St} {m : List Addr} {H : Hp} {Q : VK} {r : R (List IV)} (p : Post C X.K W σ m H (rV X.K) Q (r.bind fun xs h1 => .ok (.ref h1.length) (h1 ++ [.lst xs]))) : Post C X.K W σ m H (rL X.K) Q r := by
  cases r with
  | ok xs h1 =>
    intro m1 H1 u g1 s1 ⟨a, vs, e, n, f, q, rr⟩
    subst e
    have n0 : a ∉ m := fun z => by
      obtain ⟨k, e⟩ := List.mem_iff_getElem?.mp z
      exact n (List.mem_of_getElem? (g1.pre k a e))
    refine p (m1 ++ [a]) H1 (.ref a) (Go.take q n g1 (f n0)) (s1.take q n rr) ?_
    show VR X.K (m1 ++ [a]) H1 (.ref h1.length) (.ref a)
    simp only [rV, VR]
    exact ⟨a, by rw [← s1.len]; simp, rfl⟩
  | exc x h1 => exact p
  | bad => exact p
theorem m_new {e : Expr} {f : IEnv → IH → R (List IV)} (h : PE X e (tL C X.K W f)) : PE X e (tE C X.K W (eNew f)) :=
  pe_weak h fun σ H Q ⟨m, env, h, er, sr, p⟩ => ⟨m, env, h, er, sr, new_post p⟩
end
end MM
/-! M3: built-ins -/
namespace MM
open PySem L2

/-! ### sorted ints -/
def insI (x : Int) : List Int → List Int
  | [] => [x]
  | y :: ys => if x ≤ y then x :: y :: ys else y :: insI x ys
def sortI : List Int → List Int
  | [] => []
  | x :: xs => insI x (sortI xs)
def insU (x : Int) : List Int → List Int
  | [] => [x]
  | y :: ys => if x < y then x :: y :: ys else if x = y then y :: ys else y :: insU x ys
def sortU : List Int → List Int
  | [] => []
  | x :: xs => insU x (sortU xs)
theorem insI_perm (x : Int) : ∀ l : List Int, (insI x l).Perm (x :: l)
  | [] => .refl _
  | y :: ys => by
    unfold insI
    split
    · exact .refl _
    · exact ((insI_perm x ys).cons y).trans (.swap x y ys)
theorem sortI_perm : ∀ l : List Int, (sortI l).Perm l
  | [] => .refl _
  | x :: xs => (insI_perm x _).trans ((sortI_perm xs).cons x)
theorem insI_sorted (x : Int) : ∀ l : List Int, l.Pairwise (· ≤ ·) → (insI x l).Pairwise (· ≤ ·)
  | [], _ => List.pairwise_singleton _ _
  | y :: ys, h => by
    unfold insI
    obtain ⟨h1, h2⟩ := List.pairwise_cons.mp h
    split
    · rename_i hx
      refine List.pairwise_cons.mpr ⟨fun z hz => ?_, h⟩
      rcases List.mem_cons.mp hz with e | e
      · rw [e]; exact hx
      · exact Int.le_trans hx (h1 z e)
    · rename_i hx
      refine List.pairwise_cons.mpr ⟨fun z hz => ?_, insI_sorted x ys h2⟩
      rcases List.mem_cons.mp ((insI_perm x ys).mem_iff.mp hz) with e | e
      · rw [e]; omega
      · exact h1 z e
theorem sortI_sorted : ∀ l : List Int, (sortI l).Pairwise (· ≤ ·)
  | [] => .nil
  | x :: xs => insI_sorted x _ (sortI_sorted xs)
theorem sorted_eq : ∀ {a b : List Int}, a.Pairwise (· ≤ ·) → b.Pairwise (· ≤ ·) → a.Perm b → a = b
  | [], b, _, _, p => by rw [List.nil_perm.mp p]
  | x :: xs, [], _, _, p => by cases List.perm_nil.mp p
  | x :: xs, y :: ys, h, h', p => by
    obtain ⟨h1, h2⟩ := List.pairwise_cons.mp h
    obtain ⟨h3, h4⟩ := List.pairwise_cons.mp h'
    have e : x = y := by
      have q1 : y ∈ x :: xs := p.mem_iff.mpr List.mem_cons_self
      have q2 : x ∈ y :: ys := p.mem_iff.mp List.mem_cons_self
      rcases List.mem_cons.mp q1 with e | e
      · exact e.symm
      · rcases List.mem_cons.mp q2 with e' | e'
        · exact e'
        · exact Int.le_antisymm (h1 y e) (h3 x e')
    subst e
    rw [sorted_eq h2 h4 (List.Perm.cons_inv p)]
theorem insU_mem (x z : Int) : ∀ l : List Int, z ∈ insU x l ↔ z = x ∨ z ∈ l
  | [] => by simp [insU]
  | y :: ys => by
    unfold insU
    split
    · simp
    · split
      · rename_i e
        subst e
        simp
      · rw [List.mem_cons, insU_mem x z ys, List.mem_cons]
        constructor
        · rintro (h | h | h)
          · exact .inr (.inl h)
          · exact .inl h
          · exact .inr (.inr h)
        · rintro (h | h | h)
          · exact .inr (.inl h)
          · exact .inl h
          · exact .inr (.inr h)
theorem insU_sorted (x : Int) : ∀ l : List Int, l.Pairwise (· < ·) → (insU x l).Pairwise (· < ·)
  | [], _ => List.pairwise_singleton _ _
  | y :: ys, h => by
    unfold insU
    obtain ⟨h1, h2⟩ := List.pairwise_cons.mp h
    split
    · rename_i hx
      refine List.pairwise_cons.mpr ⟨fun z hz => ?_, h⟩
      rcases List.mem_cons.mp hz with e | e
      · rw [e]; exact hx
      · exact Int.lt_trans hx (h1 z e)
    · split
      · exact h
      · refine List.pairwise_cons.mpr ⟨fun z hz => ?_, insU_sorted x ys h2⟩
        rcases (insU_mem x z ys).mp hz with e | e
        · rw [e]; omega
        · exact h1 z e
theorem sortU_mem (z : Int) : ∀ l : List Int, z ∈ sortU l ↔ z ∈ l
  | [] => by simp [sortU]
  | x :: xs => by
    unfold sortU
    rw [insU_mem, sortU_mem z xs, List.mem_cons]
theorem sortU_sorted : ∀ l : List Int, (sortU l).Pairwise (· < ·)
  | [] => .nil
  | x :: xs => insU_sorted x _ (sortU_sorted xs)
theorem sortedU_eq : ∀ {a b : List Int}, a.Pairwise (· < ·) → b.Pairwise (· < ·) → (∀ z, z ∈ a ↔ z ∈ b) → a = b
  | [], [], _, _, _ => rfl
  | [], y :: ys, _, _, p => by have := (p y).mpr List.mem_cons_self; cases this
  | x :: xs, [], _, _, p => by have := (p x).mp List.mem_cons_self; cases this
  | x :: xs, y :: ys, h, h', p => by
    obtain ⟨h1, h2⟩ := List.pairwise_cons.mp h
    obtain ⟨h3, h4⟩ := List.pairwise_cons.mp h'
    have e : x = y := by
      rcases List.mem_cons.mp ((p x).mp List.mem_cons_self) with e | e
      · exact e
      · rcases List.mem_cons.mp ((p y).mpr List.mem_cons_self) with e' | e'
        · exact e'.symm
        · have := h1 y e'; have := h3 x e; omega
    subst e
    rw [sortedU_eq h2 h4 fun z => ?_]
    constructor
    · intro hz
      rcases List.mem_cons.mp ((p z).mp (List.mem_cons_of_mem _ hz)) with e | e
      · have := h1 z hz; omega
      · exact e
    · intro hz
      rcases List.mem_cons.mp ((p z).mpr (List.mem_cons_of_mem _ hz)) with e | e
      · have := h3 z hz; omega
      · exact e

/-! ### the combinators -/
/-- ints out of a list or tuple, then f -/
def lInts (g : List Int → List Int) (f : IEnv → IH → R (List IV)) : IEnv → IH → R (List IV) := fun env h => (f env h).bind fun xs h1 => match intsOf xs with
  | some ns => .ok ((g ns).map .int) h1
  | none => .bad
def eInts (g : List Int → Option Int) (f : IEnv → IH → R (List IV)) : EM := fun env h => (f env h).bind fun xs h1 => match intsOf xs with
  | some ns => match g ns with
    | some i => .ok (.int i) h1
    | none => .bad
  | none => .bad
def blsOf (xs : List IV) : Option (List Bool) := optAll (fun x => match x with
  | .bl i => some i
  | _ => none) xs
def eBls (g : List Bool → Bool) (f : IEnv → IH → R (List IV)) : EM := fun env h => (f env h).bind fun xs h1 => match blsOf xs with
  | some ns => .ok (.bl (g ns)) h1
  | none => .bad
def lSortSet (f : IEnv → IH → R (List IV)) : IEnv → IH → R (List IV) := fun env h => (f env h).bind fun xs h1 => match intsOf xs with
  | some ns => if ns.length < 60 then .ok ((sortU ns).map .int) h1 else .bad
  | none => .bad
def lRange (lo hi : Int) : List IV := (List.range (hi - lo).toNat).map fun i => IV.int (lo + (i : Nat))
def rgOk (a b : Int) : Bool := decide (-(2 ^ 62) ≤ a ∧ a < 2 ^ 62 ∧ -(2 ^ 62) ≤ b ∧ b < 2 ^ 62 ∧ (b - a).toNat ≤ 2 ^ 24)
def lRg1 (f : EM) : IEnv → IH → R (List IV) := fun env h => (f env h).bind fun x h1 => match x with
  | .int n => if rgOk 0 n = true then .ok (lRange 0 n) h1 else .bad
  | _ => .bad
def lRg2 (f g : EM) : IEnv → IH → R (List IV) := fun env h => (f env h).bind fun x h1 => (g env h1).bind fun y h2 => match x, y with
  | .int a, .int b => if rgOk a b = true then .ok (lRange a b) h2 else .bad
  | _, _ => .bad
def bMax : IV → IV → IH → R IV
  | .int i, .int j, h => .ok (.int (if j > i then j else i)) h
  | _, _, _ => .bad
def bMin : IV → IV → IH → R IV
  | .int i, .int j, h => .ok (.int (if j < i then j else i)) h
  | _, _, _ => .bad
def uAbs : IV → IH → R IV
  | .int i, h => .ok (.int (if i < 0 then -i else i)) h
  | _, _ => .bad
def uInt : IV → IH → R IV
  | .int i, h => .ok (.int i) h
  | .bl b, h => .ok (.int (if b then 1 else 0)) h
  | _, _ => .bad
def uLenS : IV → IH → R IV
  | .str s, h => if s.length ≤ sizeLine then .ok (.int s.length) h else .bad
  | _, _ => .bad
/-- the name of a value's type -/
def tyN : IV → String
  | .non => "NoneType"
  | .bl _ => "bool"
  | .int _ => "int"
  | .str _ => "str"
  | .fz _ => "list"
  | .ref _ => "list"
  | .tup _ => "tuple"
def isiK (ty t : String) (h : IH) : R IV := match kitB ty t with
  | some b => .ok (.bl b) h
  | none => .bad
def uIsi (t : String) : IV → IH → R IV := fun x h => match x with
  | .ref k => match h[k]? with
    | some (.lst _) => isiK "list" t h
    | _ => .bad
  | x => isiK (tyN x) t h

/-- the text that repr tells of data -/
def rpr (d : PyData) (h : IH) : R IV := if SeqAt.shaped d = true ∧ d.showable = true ∧ d.shown.length ≤ sizeLine then .ok (.str d.shown) h else .bad
def uRepr : IV → IH → R IV
  | .tup xs, h => match toD h 66 (.tup xs) with
    | some d => rpr d h
    | none => .bad
  | .ref k, h => match toD h 66 (.ref k) with
    | some d => rpr d h
    | none => .bad
  | .fz xs, h => match toD h 66 (.fz xs) with
    | some d => rpr d h
    | none => .bad
  | .int i, h => if i.natAbs.log2 < 1920 then .ok (.str (toString i)) h else .bad
  | _, _ => .bad
def eReprL (f : IEnv → IH → R (List IV)) : EM := fun env h => (f env h).bind fun xs h1 => match optAll (toD h1 66) xs with
  | some ds => rpr (.list ds) h1
  | none => .bad
/-- a method of a list -/
def eMth (o : IV → List IV → IH → R IV) (f : EM) (g : IEnv → IH → R (List IV)) : EM := fun env h => (f env h).bind fun x h1 => match x with
  | .ref k => match h1[k]? with
    | some (.lst _) => (g env h1).bind fun ys h2 => o x ys h2
    | _ => .bad
  | _ => .bad
def eMth0 (o : IV → List IV → IH → R IV) (f : EM) : EM := fun env h => (f env h).bind fun x h1 => match x with
  | .ref k => match h1[k]? with
    | some (.lst _) => o x [] h1
    | _ => .bad
  | _ => .bad
def mAppend : IV → List IV → IH → R IV
  | .ref k, [y], h => match h[k]? with
    | some (.lst xs) => if xs.length < sizeLine then .ok .non (h.set k (.lst (xs ++ [y]))) else .bad
    | _ => .bad
  | _, _, _ => .bad
def mPop : IV → List IV → IH → R IV
  | .ref k, [], h => match h[k]? with
    | some (.lst xs) => match xs[xs.length - 1]? with
      | some y => .ok y (h.set k (.lst xs.dropLast))
      | none => .bad
    | _ => .bad
  | .ref k, [.int i], h => match h[k]? with
    | some (.lst xs) => if -(2 ^ 63) ≤ i ∧ i < 2 ^ 63 then match seqIndex? i xs.length with
      | some j => match xs[j]? with
        | some y => .ok y (h.set k (.lst (xs.eraseIdx j)))
        | none => .bad
      | none => .bad else .bad
    | _ => .bad
  | _, _, _ => .bad
/-- the first place of an equal flat thing -/
def idxOf (x : IV) : List IV → Option Nat
  | [] => none
  | y :: ys => if eqF y x = true then some 0 else (idxOf x ys).map (· + 1)
def mIndex : IV → List IV → IH → R IV
  | .ref k, [y], h => match h[k]? with
    | some (.lst xs) => if flat y = true ∧ xs.all flat = true then match idxOf y xs with
      | some j => .ok (.int j) h
      | none => .bad else .bad
    | _ => .bad
  | _, _, _ => .bad

section
variable {X : Cx} {C : Cc} {W : WX}

/-- one argument, a list or a tuple -/
theorem one_q {α : Type} {rel2 : Rel α V} [RelMono X.K rel2] {f : IEnv → IH → R (List IV)} {k : List IV → IH → R α} {r : List V → Hp → VK → Prop} {σ : St} {H : Hp} {Q : VK}
    (hr : ∀ m H h xs a vs (Q : VK), SR X.K m H h → (SqL X.K H a vs ∨ SqN X.K H a vs) → VRs X.K m H xs vs → Post C X.K W σ m H rel2 Q (k xs h) → r [.ref a] H Q)
    (t : tG C X.K W rel2 (fun env h => (f env h).bind k) σ H Q) : tCB r (tCons (tSq C X.K W f) tNil) σ H Q := by
  obtain ⟨m, env, h, er, sr, p⟩ := t
  refine ⟨m, env, h, er, sr, tg_run p fun m1 H1 xs h1 u g1 s1 r1 p1 => ?_⟩
  obtain ⟨a, vs, rfl, q, rr⟩ := r1
  exact hr m1 H1 h1 xs a vs Q s1 q rr p1
/-- one argument, a value -/
theorem one_v {α : Type} {rel2 : Rel α V} [RelMono X.K rel2] {f : EM} {k : IV → IH → R α} {r : List V → Hp → VK → Prop} {σ : St} {H : Hp} {Q : VK}
    (hr : ∀ m H h x u (Q : VK), SR X.K m H h → VR X.K m H x u → Post C X.K W σ m H rel2 Q (k x h) → r [u] H Q)
    (t : tG C X.K W rel2 (fun env h => (f env h).bind k) σ H Q) : tCB r (tCons (tE C X.K W f) tNil) σ H Q := by
  obtain ⟨m, env, h, er, sr, p⟩ := t
  exact ⟨m, env, h, er, sr, tg_run p fun m1 H1 x h1 u g1 s1 r1 p1 => hr m1 H1 h1 x u Q s1 r1 p1⟩

section
variable {e : Expr} {p pos : Pos} {f : IEnv → IH → R (List IV)}
theorem m_tuple (hg : Gl X "tuple") (hm : X.mg "tuple" = none) (he : PE X e (tSq C X.K W f)) (hs : starEach (e :: []) X.env = (false, eval e X.env) :: starEach [] X.env) (hp : (backTo pos (starEach [] X.env)).any (·.1) = false) :
    PE X (.Call (.Name "tuple" p) [e] [] pos) (tE C X.K W (eTuple f)) :=
  pe_weak (pe_callTy call_tupleN hg hm (by decide +kernel) (pa_cons he pa_nil hs) (by decide) (by decide) hs hp) fun σ H Q t => one_q (fun m H h xs a vs Q s q rr p => ⟨a, vs, rfl, by
    rcases q with q | q
    · exact .inl ⟨q, fun l ob hl hd => post_tup s p rr hl hd⟩
    · exact .inr ⟨q.sq, p.here s (by simp only [rV, VR]; exact ⟨a, vs, rfl, q, rr⟩)⟩⟩) t
theorem m_list (hg : Gl X "list") (hm : X.mg "list" = none) (he : PE X e (tSq C X.K W f)) (hs : starEach (e :: []) X.env = (false, eval e X.env) :: starEach [] X.env) (hp : (backTo pos (starEach [] X.env)).any (·.1) = false) :
    PE X (.Call (.Name "list" p) [e] [] pos) (tL C X.K W (fun env h => (f env h).bind fun xs h1 => .ok xs h1)) :=
  pe_weak (pe_callTy call_list_of hg hm (by decide +kernel) (pa_cons he pa_nil hs) (by decide) (by decide) hs hp) fun σ H Q t => one_q (fun m H h xs a vs Q s q rr p => ⟨a, vs, rfl, q.imp id SqN.sq, fun l hl => post_lst s p rr hl⟩) t
theorem m_len (hg : Gl X "len") (hm : X.mg "len" = none) (he : PE X e (tSq C X.K W f)) (hs : starEach (e :: []) X.env = (false, eval e X.env) :: starEach [] X.env) (hp : (backTo pos (starEach [] X.env)).any (·.1) = false) :
    PE X (.Call (.Name "len" p) [e] [] pos) (tE C X.K W (eLen f)) :=
  pe_weak (pe_callB call_len_seq hg hm (by decide +kernel) (pa_cons he pa_nil hs) (by decide) (by decide) hs hp) fun σ H Q t => one_q (fun m H h xs a vs Q s q rr p => ⟨a, vs, rfl, q.imp id SqN.sq, by
    rw [← rr.length]; exact post_int s p⟩) t
theorem m_lenS {f : EM} (hg : Gl X "len") (hm : X.mg "len" = none) (he : PE X e (tE C X.K W f)) (hs : starEach (e :: []) X.env = (false, eval e X.env) :: starEach [] X.env) (hp : (backTo pos (starEach [] X.env)).any (·.1) = false) :
    PE X (.Call (.Name "len" p) [e] [] pos) (tE C X.K W (e1 uLenS f)) :=
  pe_weak (pe_callB call_len_str hg hm (by decide +kernel) (pa_cons he pa_nil hs) (by decide) (by decide) hs hp) fun σ H Q t => one_v (fun m H h x u Q s r p => by
    unfold uLenS at p
    split at p
    · simp only [rV, VR] at r
      subst r
      split at p
      · exact ⟨_, rfl, by assumption, post_int s p⟩
      · exact p.elim
    · exact p.elim) t
theorem m_int1 {f : EM} (hg : Gl X "int") (hm : X.mg "int" = none) (he : PE X e (tE C X.K W f)) (hs : starEach (e :: []) X.env = (false, eval e X.env) :: starEach [] X.env) (hp : (backTo pos (starEach [] X.env)).any (·.1) = false) :
    PE X (.Call (.Name "int" p) [e] [] pos) (tE C X.K W (e1 uInt f)) :=
  pe_weak (pe_callTy call_int1 hg hm (by decide +kernel) (pa_cons he pa_nil hs) (by decide) (by decide) hs hp) fun σ H Q t => one_v (fun m H h x u Q s r p => by
    unfold uInt at p
    split at p
    · simp only [rV, VR] at r
      subst r
      exact .inl ⟨_, rfl, post_int s p⟩
    · simp only [rV, VR] at r
      subst r
      exact .inr ⟨_, rfl, post_int s p⟩
    · exact p.elim) t
theorem m_abs {f : EM} (hg : Gl X "abs") (hm : X.mg "abs" = none) (he : PE X e (tE C X.K W f)) (hs : starEach (e :: []) X.env = (false, eval e X.env) :: starEach [] X.env) (hp : (backTo pos (starEach [] X.env)).any (·.1) = false) :
    PE X (.Call (.Name "abs" p) [e] [] pos) (tE C X.K W (e1 uAbs f)) :=
  pe_weak (pe_callB call_abs hg hm (by decide +kernel) (pa_cons he pa_nil hs) (by decide) (by decide) hs hp) fun σ H Q t => one_v (fun m H h x u Q s r p => by
    unfold uAbs at p
    split at p
    · simp only [rV, VR] at r
      subst r
      exact ⟨_, rfl, post_int s p⟩
    · exact p.elim) t
theorem two_v {α : Type} {rel2 : Rel α V} [RelMono X.K rel2] {f g : EM} {k : IV → IV → IH → R α} {r : List V → Hp → VK → Prop} {σ : St} {H : Hp} {Q : VK}
    (hr : ∀ m H h x y u v (Q : VK), SR X.K m H h → VR X.K m H x u → VR X.K m H y v → Post C X.K W σ m H rel2 Q (k x y h) → r [u, v] H Q)
    (t : tG C X.K W rel2 (fun env h => (f env h).bind fun x h1 => (g env h1).bind fun y h2 => k x y h2) σ H Q) : tCB r (tCons (tE C X.K W f) (tCons (tE C X.K W g) tNil)) σ H Q := by
  obtain ⟨m, env, h, er, sr, p⟩ := t
  refine ⟨m, env, h, er, sr, tg_run p fun m1 H1 x h1 u g1 s1 r1 p1 => ?_⟩
  refine ⟨m1, env, h1, er.mono g1, s1, tg_run p1 fun m2 H2 y h2 v g2 s2 r2 p2 => ?_⟩
  exact hr m2 H2 h2 x y u v Q s2 (VR.mono g2 _ _ r1) r2 p2
theorem m_max2 {e2' : Expr} {f g : EM} (hc : X.calm = true) (hg : Gl X "max") (hm : X.mg "max" = none) (he : PE X e (tE C X.K W f)) (he2 : PE X e2' (tE C X.K W g)) (hs : starEach (e :: [e2']) X.env = (false, eval e X.env) :: starEach [e2'] X.env)
    (hs2 : starEach (e2' :: []) X.env = (false, eval e2' X.env) :: starEach [] X.env) (hp : (backTo pos (starEach [e2'] X.env)).any (·.1) = false) : PE X (.Call (.Name "max" p) [e, e2'] [] pos) (tE C X.K W (e2 bMax f g)) :=
  pe_weak (pe_callB (call_max2 hc) hg hm (by decide +kernel) (pa_cons he (pa_cons he2 pa_nil hs2) hs) (by decide) (by decide) hs hp) fun σ H Q t => two_v (fun m H h x y u v Q s r1 r2 p => by
    unfold bMax at p
    split at p
    · simp only [rV, VR] at r1 r2
      subst r1; subst r2
      exact ⟨_, _, rfl, post_int s p⟩
    · exact p.elim) t
theorem m_min2 {e2' : Expr} {f g : EM} (hc : X.calm = true) (hg : Gl X "min") (hm : X.mg "min" = none) (he : PE X e (tE C X.K W f)) (he2 : PE X e2' (tE C X.K W g)) (hs : starEach (e :: [e2']) X.env = (false, eval e X.env) :: starEach [e2'] X.env)
    (hs2 : starEach (e2' :: []) X.env = (false, eval e2' X.env) :: starEach [] X.env) (hp : (backTo pos (starEach [e2'] X.env)).any (·.1) = false) : PE X (.Call (.Name "min" p) [e, e2'] [] pos) (tE C X.K W (e2 bMin f g)) :=
  pe_weak (pe_callB (call_min2 hc) hg hm (by decide +kernel) (pa_cons he (pa_cons he2 pa_nil hs2) hs) (by decide) (by decide) hs hp) fun σ H Q t => two_v (fun m H h x y u v Q s r1 r2 p => by
    unfold bMin at p
    split at p
    · simp only [rV, VR] at r1 r2
      subst r1; subst r2
      exact ⟨_, _, rfl, post_int s p⟩
    · exact p.elim) t
/-- isinstance(x, T) -/
theorem m_isi {tn : Str} {T : String} {p2 : Pos} {f : EM} (hg : Gl X "isinstance") (hm : X.mg "isinstance" = none) (he : PE X e (tE C X.K W f)) (hg2 : Gl X tn) (hm2 : X.mg tn = none) (hb : bootBuiltins tn = some (.type T)) (hn : tn ≠ "__name__") (hd : (tn == ("__debug__" : Str)) = false)
    (hs : starEach (e :: [.Name tn p2]) X.env = (false, eval e X.env) :: starEach [.Name tn p2] X.env) (hs2 : starEach (.Name tn p2 :: []) X.env = (false, eval (.Name tn p2) X.env) :: starEach [] X.env) (hp : (backTo pos (starEach [.Name tn p2] X.env)).any (·.1) = false) :
    PE X (.Call (.Name "isinstance" p) [e, .Name tn p2] [] pos) (tE C X.K W (e1 (uIsi T) f)) :=
  pe_weak (pe_callB call_isi hg hm (by decide +kernel) (pa_cons he (pa_cons (pe_bltn (v := .ty T) hg2 hm2 hb rfl hn hd) pa_nil hs2) hs) (by decide) (by decide) hs hp) fun σ H Q ⟨m, env, h, er, sr, p⟩ => ⟨m, env, h, er, sr, tg_run p fun m1 H1 x h1 u g1 s1 r1 p1 => by
    have go : ∀ t : String, TyX X.K H1 u (.type t) → Post C X.K W σ m1 H1 (rV X.K) Q (isiK t T h1) → rIsi X.K [u, .ty T] H1 Q := by
      intro t ty q
      unfold isiK at q
      cases hk : kitB t T with
      | none => rw [hk] at q; exact q.elim
      | some b =>
        rw [hk] at q
        exact ⟨u, .ty T, .type t, .type T, b, rfl, .ty T, ty, kit_ty hk, post_bl s1 q⟩
    unfold uIsi at p1
    cases x with
    | non => simp only [rV, VR] at r1; subst r1; exact go _ (.base .non) p1
    | bl b => simp only [rV, VR] at r1; subst r1; exact go _ (.base (.bl b)) p1
    | int b => simp only [rV, VR] at r1; subst r1; exact go _ (.base (.int b)) p1
    | str b => simp only [rV, VR] at r1; subst r1; exact go _ (.base (.str b)) p1
    | fz ys =>
      simp only [rV, VR] at r1
      obtain ⟨a, vs, rfl, t, rr⟩ := r1
      refine go _ ?_ p1
      rcases t with ⟨o, q⟩ | ⟨its, n, q1, _⟩
      · exact .base (.frz q)
      · exact .kList q1 rfl
    | ref k =>
      simp only [rV, VR] at r1
      obtain ⟨a, e1, rfl⟩ := r1
      dsimp only at p1
      split at p1
      · rename_i ys hk
        obtain ⟨a', vs, e2, q, _⟩ := s1.get hk
        rw [e1] at e2; cases e2
        exact go _ (.base (.lst q)) p1
      · exact p1.elim
    | tup xs =>
      simp only [rV, VR] at r1
      obtain ⟨a, vs, rfl, t0, rr⟩ := r1
      have t := t0.sq
      refine go _ ?_ p1
      rcases t with (q | ⟨o, q⟩) | ⟨o, its, n, q1, q2, _⟩
      · exact .base (.tup q)
      · exact .fTuple q
      · exact .kTuple q1 q2⟩
theorem m_listRg {n : Expr} {p2 pos2 : Pos} {f : EM} (hc : X.calm = true) (hg : Gl X "list") (hm : X.mg "list" = none) (hg2 : Gl X "range") (hm2 : X.mg "range" = none) (he : PE X n (tE C X.K W f)) (hs : starEach [n] X.env = (false, eval n X.env) :: starEach [] X.env)
    (hs2 : starEach [.Call (.Name "range" p2) [n] [] pos2] X.env = (false, eval (.Call (.Name "range" p2) [n] [] pos2) X.env) :: starEach [] X.env) :
    PE X (.Call (.Name "list" p) [.Call (.Name "range" p2) [n] [] pos2] [] pos) (tL C X.K W (lRg1 f)) :=
  pe_weak (pe_listRg hc hg hm (prg_1 hg2 hm2 he hs) hs2) fun σ H Q ⟨m, env, h, er, sr, p⟩ => ⟨m, env, h, er, sr, tg_run p fun m1 H1 x h1 u g1 s1 r1 p1 => by
    cases x <;> first | exact p1.elim | skip
    rename_i i
    simp only [rV, VR] at r1
    subst r1
    dsimp only at p1
    split at p1
    · rename_i hk
      refine ⟨i, rfl, (by unfold rgOk at hk; have hk' := of_decide_eq_true hk; exact hk'), fun q hq => post_lst s1 p1 ?_ hq⟩
      unfold lRange rgV
      have e1 : ((List.range (i - 0).toNat).map fun j => IV.int (0 + (j : Nat))) = ((List.range (i - 0).toNat).map fun j => (0 : Int) + (j : Nat)).map IV.int := by rw [List.map_map]; rfl
      have e2 : ((List.range (i - 0).toNat).map fun j => V.int (0 + (j : Nat))) = ((List.range (i - 0).toNat).map fun j => (0 : Int) + (j : Nat)).map V.int := by rw [List.map_map]; rfl
      rw [e1, e2]
      exact VRs.of_ints _
    · exact p1.elim⟩

/-! ### lists alone -/
def rSl (K : PySem.W.Frag) : Rel (List IV) V := fun _ _ m H xs v => ∃ p vs, v = .ref p ∧ SqL K H p vs ∧ VRs K m H xs vs
instance {K : PySem.W.Frag} : RelMono K (rSl K) := ⟨fun _ r => r⟩
abbrev tSl (C : Cc) (K : PySem.W.Frag) (W : WX) (f : IEnv → IH → R (List IV)) : TE := tG C K W (rSl K) f
def itemsL (h : IH) : IV → Option (List IV)
  | .fz xs => some xs
  | .ref k => match h[k]? with
    | some (.lst xs) => some xs
    | _ => none
  | _ => none
def qLV (f : EM) : IEnv → IH → R (List IV) := fun env h => (f env h).bind fun x h1 => match itemsL h1 x with
  | some xs => .ok xs h1
  | none => .bad
theorem itemsL_rd {K : PySem.W.Frag} {m : List Addr} {H : Hp} {h : IH} (s : SR K m H h) {x : IV} {v : V} {xs : List IV} (r : VR K m H x v) (e : itemsL h x = some xs) : ∃ a vs, v = .ref a ∧ SqL K H a vs ∧ VRs K m H xs vs := by
  cases x with
  | fz ys =>
    simp only [VR] at r
    obtain ⟨a, vs, rfl, q, rr⟩ := r
    cases e
    exact ⟨a, _, rfl, q.list, rr⟩
  | ref k =>
    simp only [VR] at r
    obtain ⟨a, e1, rfl⟩ := r
    simp only [itemsL] at e
    split at e
    · rename_i ys hk
      cases e
      obtain ⟨a', vs, e2, q, rr⟩ := s.get hk
      rw [e1] at e2; cases e2
      exact ⟨a, vs, rfl, .of q, rr⟩
    · cases e
  | tup _ => cases e
  | non => cases e
  | bl _ => cases e
  | int _ => cases e
  | str _ => cases e
theorem pe_lV {e : Expr} {f : EM} (he : PE X e (tE C X.K W f)) : PE X e (tSl C X.K W (qLV f)) :=
  pe_weak he fun σ H Q ⟨m, env, h, er, sr, p⟩ => ⟨m, env, h, er, sr, tg_run p fun m1 H1 x h1 u g1 s1 r1 p1 => by
    cases hi : itemsL h1 x with
    | none => rw [hi] at p1; exact p1.elim
    | some xs =>
      rw [hi] at p1
      exact p1.here s1 (itemsL_rd s1 r1 hi)⟩
theorem pe_lL {e : Expr} {f : IEnv → IH → R (List IV)} (he : PE X e (tL C X.K W f)) : PE X e (tSl C X.K W f) :=
  pe_weak he fun σ H Q ⟨m, env, h, er, sr, p⟩ => ⟨m, env, h, er, sr, by
    cases hf : f env h with
    | ok xs h1 =>
      rw [hf] at p
      exact fun m1 H1 u g1 s1 ⟨a, vs, e, n, _, q, rr⟩ => p m1 H1 u g1 s1 ⟨a, vs, e, .of q, rr⟩
    | exc x h1 => rw [hf] at p; exact p
    | bad => rw [hf] at p; exact p⟩
theorem one_l {α : Type} {rel2 : Rel α V} [RelMono X.K rel2] {f : IEnv → IH → R (List IV)} {k : List IV → IH → R α} {r : List V → Hp → VK → Prop} {σ : St} {H : Hp} {Q : VK}
    (hr : ∀ m H h xs a vs (Q : VK), SR X.K m H h → SqL X.K H a vs → VRs X.K m H xs vs → Post C X.K W σ m H rel2 Q (k xs h) → r [.ref a] H Q)
    (t : tG C X.K W rel2 (fun env h => (f env h).bind k) σ H Q) : tCB r (tCons (tSl C X.K W f) tNil) σ H Q := by
  obtain ⟨m, env, h, er, sr, p⟩ := t
  refine ⟨m, env, h, er, sr, tg_run p fun m1 H1 xs h1 u g1 s1 r1 p1 => ?_⟩
  obtain ⟨a, vs, rfl, q, rr⟩ := r1
  exact hr m1 H1 h1 xs a vs Q s1 q rr p1
theorem blsOf_map {K : PySem.W.Frag} {m : List Addr} {H : Hp} : ∀ {xs : List IV} {bs : List Bool} {vs : List V}, blsOf xs = some bs → VRs K m H xs vs → vs = bs.map V.bl
  | [], bs, vs, e, r => by
    cases e
    simp only [VRs] at r
    exact r
  | x :: xs, bs, vs, e, r => by
    obtain ⟨y, ys, e1, e2, rfl⟩ := optAll_cons e
    simp only [VRs] at r
    obtain ⟨v, q, rfl, r1, r2⟩ := r
    have ih := blsOf_map (xs := xs) (bs := ys) e2 r2
    cases x <;> first | cases e1 | skip
    simp only [VR] at r1
    rw [ih, r1]
    rfl
section
variable {e : Expr} {p pos : Pos} {f : IEnv → IH → R (List IV)}
theorem m_all (hc : X.calm = true) (hg : Gl X "all") (hm : X.mg "all" = none) (he : PE X e (tSl C X.K W f)) (hs : starEach (e :: []) X.env = (false, eval e X.env) :: starEach [] X.env) (hp : (backTo pos (starEach [] X.env)).any (·.1) = false) :
    PE X (.Call (.Name "all" p) [e] [] pos) (tE C X.K W (eBls (fun bs => bs.all id) f)) :=
  pe_weak (pe_callB (cr_all hc) hg hm (by decide +kernel) (pa_cons he pa_nil hs) (by decide) (by decide) hs hp) fun σ H Q t => one_l (fun m H h xs a vs Q s q rr p => by
    split at p
    · rename_i bs hb
      rw [blsOf_map hb rr] at q
      exact ⟨a, bs, rfl, q, post_bl s p⟩
    · exact p.elim) t
theorem m_any (hc : X.calm = true) (hg : Gl X "any") (hm : X.mg "any" = none) (he : PE X e (tSl C X.K W f)) (hs : starEach (e :: []) X.env = (false, eval e X.env) :: starEach [] X.env) (hp : (backTo pos (starEach [] X.env)).any (·.1) = false) :
    PE X (.Call (.Name "any" p) [e] [] pos) (tE C X.K W (eBls (fun bs => bs.any id) f)) :=
  pe_weak (pe_callB (cr_any hc) hg hm (by decide +kernel) (pa_cons he pa_nil hs) (by decide) (by decide) hs hp) fun σ H Q t => one_l (fun m H h xs a vs Q s q rr p => by
    split at p
    · rename_i bs hb
      rw [blsOf_map hb rr] at q
      exact ⟨a, bs, rfl, q, post_bl s p⟩
    · exact p.elim) t
theorem m_sum (hc : X.calm = true) (hg : Gl X "sum") (hm : X.mg "sum" = none) (he : PE X e (tSl C X.K W f)) (hs : starEach (e :: []) X.env = (false, eval e X.env) :: starEach [] X.env) (hp : (backTo pos (starEach [] X.env)).any (·.1) = false) :
    PE X (.Call (.Name "sum" p) [e] [] pos) (tE C X.K W (eInts (fun ns => some ns.sum) f)) :=
  pe_weak (pe_callB (cr_sum hc) hg hm (by decide +kernel) (pa_cons he pa_nil hs) (by decide) (by decide) hs hp) fun σ H Q t => one_l (fun m H h xs a vs Q s q rr p => by
    split at p
    · rename_i ns hn
      rw [intsOf_map hn] at rr
      rw [VRs.ints rr] at q
      exact ⟨a, ns, rfl, q, post_int s p⟩
    · exact p.elim) t
/-- the greatest, the least -/
def maxL : List Int → Option Int
  | [] => none
  | x :: xs => some (xs.foldl (fun a b => if b > a then b else a) x)
def minL : List Int → Option Int
  | [] => none
  | x :: xs => some (xs.foldl (fun a b => if b < a then b else a) x)
theorem maxL_fold : ∀ (xs : List Int) (x : Int), (xs.foldl (fun a b => if b > a then b else a) x) ∈ x :: xs ∧ ∀ y ∈ x :: xs, y ≤ xs.foldl (fun a b => if b > a then b else a) x
  | [], x => ⟨by simp, fun y hy => by simp at hy; subst hy; exact Int.le_refl _⟩
  | z :: xs, x => by
    simp only [List.foldl_cons]
    obtain ⟨h1, h2⟩ := maxL_fold xs (if z > x then z else x)
    constructor
    · rcases List.mem_cons.mp h1 with e | e
      · rw [e]; split <;> simp
      · exact List.mem_cons_of_mem _ (List.mem_cons_of_mem _ e)
    · intro y hy
      have h3 := h2 _ List.mem_cons_self
      rcases List.mem_cons.mp hy with e | e
      · subst e; split at h3 <;> rename_i hz
        · simp only [hz, if_true]; omega
        · simp only [hz, if_false]; exact h3
      · rcases List.mem_cons.mp e with e | e
        · subst e; split at h3 <;> rename_i hz
          · simp only [hz, if_true]; exact h3
          · simp only [hz, if_false]; omega
        · exact h2 y (List.mem_cons_of_mem _ e)
theorem minL_fold : ∀ (xs : List Int) (x : Int), (xs.foldl (fun a b => if b < a then b else a) x) ∈ x :: xs ∧ ∀ y ∈ x :: xs, xs.foldl (fun a b => if b < a then b else a) x ≤ y
  | [], x => ⟨by simp, fun y hy => by simp at hy; subst hy; exact Int.le_refl _⟩
  | z :: xs, x => by
    simp only [List.foldl_cons]
    obtain ⟨h1, h2⟩ := minL_fold xs (if z < x then z else x)
    constructor
    · rcases List.mem_cons.mp h1 with e | e
      · rw [e]; split <;> simp
      · exact List.mem_cons_of_mem _ (List.mem_cons_of_mem _ e)
    · intro y hy
      have h3 := h2 _ List.mem_cons_self
      rcases List.mem_cons.mp hy with e | e
      · subst e; split at h3 <;> rename_i hz
        · simp only [hz, if_true]; omega
        · simp only [hz, if_false]; exact h3
      · rcases List.mem_cons.mp e with e | e
        · subst e; split at h3 <;> rename_i hz
          · simp only [hz, if_true]; exact h3
          · simp only [hz, if_false]; omega
        · exact h2 y (List.mem_cons_of_mem _ e)
theorem maxL_is {ns : List Int} {M m : Int} (h : maxL ns = some M) (h1 : m ∈ ns) (h2 : ∀ y ∈ ns, y ≤ m) : m = M := by
  cases ns with
  | nil => cases h
  | cons x xs =>
    cases h
    obtain ⟨a, b⟩ := maxL_fold xs x
    exact Int.le_antisymm (b m h1) (h2 _ a)
theorem minL_is {ns : List Int} {M m : Int} (h : minL ns = some M) (h1 : m ∈ ns) (h2 : ∀ y ∈ ns, m ≤ y) : m = M := by
  cases ns with
  | nil => cases h
  | cons x xs =>
    cases h
    obtain ⟨a, b⟩ := minL_fold xs x
    exact Int.le_antisymm (h2 _ a) (b m h1)
theorem m_max (hc : X.calm = true) (hg : Gl X "max") (hm : X.mg "max" = none) (he : PE X e (tSl C X.K W f)) (hs : starEach (e :: []) X.env = (false, eval e X.env) :: starEach [] X.env) (hp : (backTo pos (starEach [] X.env)).any (·.1) = false) :
    PE X (.Call (.Name "max" p) [e] [] pos) (tE C X.K W (eInts maxL f)) :=
  pe_weak (pe_callB (cr_max hc) hg hm (by decide +kernel) (pa_cons he pa_nil hs) (by decide) (by decide) hs hp) fun σ H Q t => one_l (fun m H h xs a vs Q s q rr p => by
    split at p
    · rename_i ns hn
      split at p
      · rename_i M hM
        rw [intsOf_map hn] at rr
        rw [VRs.ints rr] at q
        refine ⟨a, ns, rfl, q, ?_, fun z h1 h2 => ?_⟩
        · cases ns with
          | nil => cases hM
          | cons _ _ => exact Nat.succ_pos _
        · rw [maxL_is hM h1 h2]
          exact post_int s p
      · exact p.elim
    · exact p.elim) t
theorem m_min (hc : X.calm = true) (hg : Gl X "min") (hm : X.mg "min" = none) (he : PE X e (tSl C X.K W f)) (hs : starEach (e :: []) X.env = (false, eval e X.env) :: starEach [] X.env) (hp : (backTo pos (starEach [] X.env)).any (·.1) = false) :
    PE X (.Call (.Name "min" p) [e] [] pos) (tE C X.K W (eInts minL f)) :=
  pe_weak (pe_callB (cr_min hc) hg hm (by decide +kernel) (pa_cons he pa_nil hs) (by decide) (by decide) hs hp) fun σ H Q t => one_l (fun m H h xs a vs Q s q rr p => by
    split at p
    · rename_i ns hn
      split at p
      · rename_i M hM
        rw [intsOf_map hn] at rr
        rw [VRs.ints rr] at q
        refine ⟨a, ns, rfl, q, ?_, fun z h1 h2 => ?_⟩
        · cases ns with
          | nil => cases hM
          | cons _ _ => exact Nat.succ_pos _
        · rw [minL_is hM h1 h2]
          exact post_int s p
      · exact p.elim
    · exact p.elim) t
end

/-! ### sorted of ints, of a list or a tuple -/
open PyProof.Rows in
theorem gather {prog : Program} {w : World} {A : Around} {E : Value → Shared → Prop} {s : Shared} {l : Addr} {T : String} {o : Obj} {vs : List Value} {n : Nat} {Q : List Value → Shared → Prop}
    (hT : T = "list" ∨ T = "tuple") (ho : s.heap.get? l = some o) (hc : o.cls = .type T) (hd : o.data = .seq vs.toArray n) (hz : vs.length ≤ sizeLine)
    (h : Q vs { s with heap := (s.heap.push (seqObj "list" #[] 0)).update s.heap.objs.size (Obj.mapSeq (· ++ vs.toArray)) }) : wpAny (model prog w) A (collect (.ref l)) Q E s := by
  have h0 : (s.heap.push (seqObj "list" #[] 0)).get? s.heap.objs.size = some { cls := .type "list", data := .seq #[] 0 } := Heap.get?_push_size _ rfl
  have h1 : (s.heap.push (seqObj "list" #[] 0)).get? l = some o := Heap.get?_push_of_some _ ho
  have h2 := Heap.get?_update_self (Obj.mapSeq (· ++ vs.toArray)) h0 rfl
  unfold collect
  refine wpAny_bind (wpAny_runValue (codeAny_builtin entry_proto_collect' ?_))
  show wpAny _ _ (newList [] >>= fun x => again (.builtin "list.__iadd__" ⟨[x, .ref l], []⟩)) _ _ s
  refine wpAny_bind (wpAny_newList (wpAny_pure ⟨Code.quiet_builtin _ (by decide +kernel), codeAny_builtin entry_list_iadd' ?_⟩))
  have last : wpAny (model prog w) A (do
      let o ← load s.heap.objs.size
      match o.data with
      | .seq xs _ => pure xs.toList
      | _ => unsupported "internal:collect") Q E { s with heap := (s.heap.push (seqObj "list" #[] 0)).update s.heap.objs.size (Obj.mapSeq (· ++ vs.toArray)) } := by
    refine wpAny_bind (wpAny_load h2 ?_)
    show wpAny _ _ (pure ((#[] : Array Value) ++ vs.toArray).toList) Q E _
    have e : ((#[] : Array Value) ++ vs.toArray).toList = vs := by simp
    rw [e]
    exact wpAny_pure h
  refine wpAny_mono (Q := fun fin s' => match fin with
      | .done f => (f = .ret (.ref s.heap.objs.size) ∧ s' = { s with heap := (s.heap.push (seqObj "list" #[] 0)).update s.heap.objs.size (Obj.mapSeq (· ++ vs.toArray)) })
      | .again c' => False) (E := fun _ _ => False) ?_ (fun fin s' q => ?_) fun _ _ q => q.elim
  · show wpAny _ _ (Builtin.List.listExtendWith (.ref s.heap.objs.size) (.ref l) (.ref s.heap.objs.size)) _ _ { s with heap := s.heap.push (seqObj "list" #[] 0) }
    unfold Builtin.List.listExtendWith
    refine wpAny_bind (wpAny_typeOf (T := T) ⟨o, h1, hc⟩ ?_)
    have ht : (Builtin.List.listSameRef (.ref s.heap.objs.size) (.ref l) || Value.type T == Value.type "list" || Value.type T == Value.type "tuple") = true := by
      rcases hT with rfl | rfl
      · simp
      · simp
    rw [if_pos ht]
    refine wpAny_bind (listItems_at h1 hd ?_)
    refine wpAny_bind (listItems_at (xs := #[]) (n := 0) h0 rfl ?_)
    rw [if_neg (by simp)]
    refine wpAny_bind (listUpdate_at (xs := #[]) (n := 0) h0 rfl ?_ (Nat.zero_le _) (by show (#[] ++ vs.toArray).size ≤ sizeLine + 1; simp only [Array.size_append, List.size_toArray, List.length_nil]; omega))
    exact wpAny_pure ⟨rfl, rfl⟩
  · cases fin with
    | done f =>
      obtain ⟨rfl, rfl⟩ := q
      exact last
    | again c' => exact q.elim
open PyProof.Rows in
theorem sorted_seq {prog : Program} {w : World} {A : Around} {E : Value → Shared → Prop} {s : Shared} {l : Addr} {T : String} {o : Obj} {vs : List Value} {n : Nat} {ltv : Value → Value → Bool} {Q : Value → Shared → Prop} (O : SrtO.Swo ltv)
    (hT : T = "list" ∨ T = "tuple") (ho : s.heap.get? l = some o) (hc : o.cls = .type T) (hd : o.data = .seq vs.toArray n) (hz : vs.length ≤ sizeLine)
    (hS : 2 ≤ vs.length → ∀ (h₁ : Heap) (a : Addr), (∀ b u, s.heap.get? b = some u → b ≠ a ∧ h₁.get? b = some u) → SrtO.SortableO prog w A.in1.in1 { s with heap := h₁ } a vs ltv)
    (h : ∀ (out : List Value), SrtO.Srtd ltv out → SrtO.Stb ltv out vs → Q (.ref (s.heap.objs.size + 1)) { s with heap := sortedAll s.heap vs out.toArray }) :
    wpAny (model prog w) A (call (.builtin "sorted") [.ref l]) Q E s := by
  have sz : ((s.heap.push (seqObj "list" #[] 0)).update s.heap.objs.size (Obj.mapSeq (· ++ vs.toArray))).objs.size = s.heap.objs.size + 1 := by
    rw [Heap.size_update]
    simp
  generalize hG : (s.heap.push (seqObj "list" #[] 0)).update s.heap.objs.size (Obj.mapSeq (· ++ vs.toArray)) = G at sz
  have kG : ∀ b u, s.heap.get? b = some u → b < s.heap.objs.size ∧ G.get? b = some u := fun b u q => by
    have hlt := Heap.lt_size q
    refine ⟨hlt, ?_⟩
    rw [← hG, Heap.get?_update_ne _ _ _ _ (Nat.ne_of_lt hlt)]
    exact Heap.get?_push_of_some _ q
  have hoL : (G.push (seqObj "list" vs.toArray 0)).get? (s.heap.objs.size + 1) = some (seqObj "list" vs.toArray 0) := by
    rw [← sz]; exact Heap.get?_push_size _ rfl
  have hA : sortedAll s.heap vs = sortedHeap (G.push (seqObj "list" vs.toArray 0)) (s.heap.objs.size + 1) vs := by
    funext out
    unfold sortedAll
    rw [hG]
  rw [hA] at h
  refine Calls.call_function_entry kind_sorted plain_sorted entry_sorted (args_sorted1 _) ?_
  unfold Builtin.«sorted»
  refine wpAny_bind (m := checkCount "sorted" 1 1 _) (wpAny_pure ?_)
  refine wpAny_bind (gather hT ho hc hd hz ?_)
  rw [hG]
  refine wpAny_bind (wpAny_newList ?_ hz)
  show wpAny _ _ _ _ _ { s with heap := G.push (seqObj "list" vs.toArray 0) }
  rw [sz]
  refine wpAny_bind (wpAny_holding (wpAny_call_entry slot_list_sort ⟨_, hoL, rfl⟩ entry_list_sort (SrtO.list_sort_ord O hoL hz (fun h2 => hS h2 _ _ fun b u q => ?_) fun out h1 h2 => ⟨_, rfl, ?_⟩) (args_list_sort _)))
  · obtain ⟨hlt, q1⟩ := kG b u q
    exact ⟨Nat.ne_of_lt (Nat.lt_succ_of_lt hlt), Heap.get?_push_of_some _ q1⟩
  · exact wpAny_pure ⟨_, rfl, h out h1 h2⟩

theorem int_seq {X : Cx} {pins : List (Addr × Obj)} {σ : St} {H : Hp} {s : Shared} (I : Inv X pins σ H s) {a : Addr} {ns : List Int} (q : SqL X.K H a (ns.map V.int) ∨ SqT X.K H a (ns.map V.int)) :
    ∃ (T : String) (o : Obj) (its : List Value) (n : Nat), (T = "list" ∨ T = "tuple") ∧ s.heap.get? a = some o ∧ o.cls = .type T ∧ o.data = .seq its.toArray n ∧ its.length ≤ sizeLine ∧ PyProof.Rows.IntsAre its ns := by
  rcases q with q | q
  · obtain ⟨its, rv, ⟨o, n, ho, hc, _, hd⟩, hz⟩ := I.list q
    exact ⟨"list", o, its, n, .inl rfl, ho, hc, hd, by rw [← rv.length]; exact hz, rv.ints⟩
  · obtain ⟨its, rv, ⟨o, ho, hc, n, hd⟩, hz⟩ := I.tuple q
    exact ⟨"tuple", o, its, n, .inr rfl, ho, hc, hd, by rw [← rv.length]; exact hz, rv.ints⟩
theorem cr_sortedQ {X : Cx} : CallR X (.builtin "sorted") (fun vs H Q => ∃ (a : Addr) (ns : List Int), vs = [V.ref a] ∧ (SqL X.K H a (ns.map V.int) ∨ SqT X.K H a (ns.map V.int)) ∧
    ∀ (p : Addr), H p = none → Q (.ref p) (upd H p (.lst ((sortI ns).map V.int)))) := by
  intro pins s σ H vs us Q I r h
  obtain ⟨a, ns, rfl, hs, q⟩ := h
  obtain ⟨T, o, its, n, hT, ho, hc, hd, hz, hi⟩ := int_seq I hs
  rw [Vals.ref1 r]
  refine sorted_seq SrtO.swo_int hT ho hc hd hz (fun h2 h₁ a' _ => SrtO.ints_sortable hi h2) fun out h1 h2 => ?_
  obtain ⟨k1, k2, k3⟩ := SrtO.ints_out hi h1 h2
  obtain ⟨ep, he'⟩ := PyProof.Rows.sortedAll_at s.heap its out.toArray
  have e : out.map SrtO.iv = sortI ns := sorted_eq k3 (sortI_sorted ns) (k2.trans (sortI_perm ns).symm)
  have hlen : ((sortI ns).map V.int).length ≤ sizeLine := by
    rw [List.length_map, (sortI_perm ns).length_eq, ← hi.length]
    exact hz
  rw [e] at k1
  exact ⟨.ref _, upd H (s.heap.objs.size + 1) (.lst ((sortI ns).map V.int)), I.laid (t' := s.toks) (fun _ _ => PyProof.Rows.sortedAll_old) (Nat.le_succ _) ⟨hlen, out, ep, vals_of_ints k1, he'⟩, rfl, q _ (I.hok.fresh (Nat.le_succ _))⟩
theorem m_sorted {e : Expr} {p pos : Pos} {f : IEnv → IH → R (List IV)} (hg : Gl X "sorted") (hm : X.mg "sorted" = none) (he : PE X e (tSq C X.K W f)) (hs : starEach (e :: []) X.env = (false, eval e X.env) :: starEach [] X.env) (hp : (backTo pos (starEach [] X.env)).any (·.1) = false) :
    PE X (.Call (.Name "sorted" p) [e] [] pos) (tL C X.K W (lInts sortI f)) :=
  pe_weak (pe_callB cr_sortedQ hg hm (by decide +kernel) (pa_cons he pa_nil hs) (by decide) (by decide) hs hp) fun σ H Q t => one_q (fun m H h xs a vs Q s q rr p => by
    split at p
    · rename_i ns hn
      rw [intsOf_map hn] at rr
      rw [VRs.ints rr] at q
      exact ⟨a, ns, rfl, q.imp id SqN.sq, fun l hl => post_lst s p (VRs.of_ints _) hl⟩
    · exact p.elim) t

/-! ### sorted(set(..)) -/
theorem cr_setTupI {X : Cx} (hc : X.calm = true) : CallR X (.type "set") (fun vs H Q => ∃ (a : Addr) (ns : List Int), vs = [V.ref a] ∧ SqT X.K H a (ns.map V.int) ∧ ns.length + 1 < scanBound ∧
    ∀ (p : Addr) (n : Nat), H p = none → n ≤ ns.length → Q (.ref p) (upd H p (SetO X.w p (fun j => decide (j ∈ ns)) n))) := by
  intro pins s σ H vs us Q I r h
  obtain ⟨a, ns, rfl, hs, hb, q⟩ := h
  obtain ⟨its, rv, pt, hz⟩ := I.tuple hs
  rw [Vals.ref1 r]
  have hi : PyProof.Rows.IntsAre its.toArray.toList ns := rv.ints
  refine call_set_tupI ns (I.ok.hd hc) (show s.heap.IsTuple a its.toArray from pt) hi hb fun h' tk c R hcn k => ?_
  have hf := I.hok.fresh (Nat.le_refl s.heap.objs.size)
  exact ⟨.ref _, _, I.laid (t' := tk) k (Nat.le_refl _) (setO_new R), rfl, q _ c hf hcn⟩
/-- sorted(set(t)), t a tuple of ints -/
theorem m_sortSet {e : Expr} {p p2 pos pos2 : Pos} {f : EM} (hc : X.calm = true) (hg : Gl X "sorted") (hm : X.mg "sorted" = none) (hg2 : Gl X "set") (hm2 : X.mg "set" = none) (he : PE X e (tE C X.K W f))
    (hs : starEach (e :: []) X.env = (false, eval e X.env) :: starEach [] X.env) (hp : (backTo pos2 (starEach [] X.env)).any (·.1) = false)
    (hs2 : starEach (.Call (.Name "set" p2) [e] [] pos2 :: []) X.env = (false, eval (.Call (.Name "set" p2) [e] [] pos2) X.env) :: starEach [] X.env) (hp2 : (backTo pos (starEach [] X.env)).any (·.1) = false) :
    PE X (.Call (.Name "sorted" p) [.Call (.Name "set" p2) [e] [] pos2] [] pos) (tL C X.K W (lSortSet fun env h => (f env h).bind fun x h1 => match x with
      | .tup xs => .ok xs h1
      | _ => .bad)) :=
  pe_weak (pe_callB (cr_sortedSet hc) hg hm (by decide +kernel) (pa_cons (pe_callTy (cr_setTupI hc) hg2 hm2 (by decide +kernel) (pa_cons he pa_nil hs) (by decide) (by decide) hs hp) pa_nil hs2) (by decide) (by decide) hs2 hp2) fun σ H Q ⟨m, env, h, er, sr, p⟩ => by
    refine ⟨m, env, h, er, sr, ?_⟩
    unfold lSortSet at p
    dsimp only at p
    cases hf : f env h with
    | exc x h1 => rw [hf] at p; exact p
    | bad => rw [hf] at p; exact p.elim
    | ok x h1 =>
      rw [hf] at p
      intro m1 H1 u g1 s1 r1
      cases x <;> first | exact p.elim | skip
      rename_i xs
      simp only [R.bind] at p
      cases hi : intsOf xs with
      | none => rw [hi] at p; exact p.elim
      | some ns =>
        rw [hi] at p
        dsimp only at p
        by_cases hlen : ns.length < 60
        · rw [if_pos hlen] at p
          have r1 : VR X.K m1 H1 (.tup xs) u := r1
          simp only [VR] at r1
          obtain ⟨a, vs, rfl, t, rr⟩ := r1
          rw [intsOf_map hi] at rr
          rw [VRs.ints rr] at t
          refine ⟨a, ns, rfl, t.sq, by unfold scanBound; omega, fun q n hq hn => ⟨q, _, n, rfl, upd_same, by omega, fun ns' l pw mem ln hl => ?_⟩⟩
          have e : ns' = sortU ns := sortedU_eq pw (sortU_sorted ns) fun z => by
            rw [mem z, sortU_mem, decide_eq_true_eq]
          rw [e]
          have g2 : Go X.K m1 H1 m1 (upd (upd H1 q (SetO X.w q (fun j => decide (j ∈ ns)) n)) l (.lst ((sortU ns).map V.int))) := (Go.laid hq).trans (Go.laid hl)
          have s2 : SR X.K m1 (upd H1 q (SetO X.w q (fun j => decide (j ∈ ns)) n)) h1 := s1.laid hq
          have hl1 : H1 l = none := by
            cases z : H1 l with
            | none => rfl
            | some o => rw [upd_ne (ne_of_none z hq), z] at hl; cases hl
          refine p m1 _ _ (g1.trans g2) (s2.laid hl) ⟨l, _, rfl, s2.fresh hl, fun hlm => ?_, upd_same, VRs.of_ints _⟩
          exact fresh_back g1 (fun _ => hl1) hlm
        · rw [if_neg hlen] at p; exact p.elim

/-! ### repr -/
theorem cr_reprD {X : Cx} (hgd : X.A.guards = some []) (hu : X.A.units + 80 < cLine) : CallR X (.builtin "repr") (fun vs H Q => ∃ (a : Addr) (d : PyData), vs = [V.ref a] ∧ Dp X.K H (.ref a) d ∧ SeqAt.shaped d = true ∧ d.showable = true ∧ d.shown.length ≤ sizeLine ∧ Q (.str d.shown) H) := by
  intro pins s σ H vs us Q I r h
  obtain ⟨a, d, rfl, hd, hs, hw, hz, q⟩ := h
  obtain ⟨as, rd⟩ := Dp.reads I d (.ref a) (.ref a) hd rfl
  rw [Vals.ref1 r]
  refine repr_of_reads' rd hw (PyData.noDict_hsm (PyData.hasDict_of_canLay d (SeqAt.canLay_of_shaped hs))) hgd ?_ (fun _ _ e => e) (fun h' u tk k => ?_) hz
  · have := SeqAt.depth_of_shaped hs
    omega
  · exact ⟨.str d.shown, H, I.kept (t' := tk) k, ⟨u, rfl⟩, q⟩
theorem toD_ref {K : PySem.W.Frag} {m : List Addr} {H : Hp} {h : IH} {x : IV} {u : V} (r : VR K m H x u) (hx : (∃ xs, x = .tup xs) ∨ (∃ k, x = .ref k) ∨ (∃ xs, x = .fz xs)) : ∃ a, u = .ref a := by
  rcases hx with ⟨xs, rfl⟩ | ⟨k, rfl⟩ | ⟨xs, rfl⟩
  · simp only [VR] at r
    obtain ⟨a, vs, rfl, _⟩ := r
    exact ⟨a, rfl⟩
  · simp only [VR] at r
    obtain ⟨a, _, rfl⟩ := r
    exact ⟨a, rfl⟩
  · simp only [VR] at r
    obtain ⟨a, vs, rfl, _⟩ := r
    exact ⟨a, rfl⟩
theorem call_repr_i {X : Cx} : CallR X (.builtin "repr") (fun xs H Q => ∃ i, xs = [V.int i] ∧ i.natAbs.log2 < 1920 ∧ Q (.str (toString i)) H) := by
  intro pins s σ H xs us Q I r h
  obtain ⟨i, rfl, hz, q⟩ := h
  obtain ⟨u, rfl, t, rfl⟩ := vals1 r
  exact PySem.P.repr_of_int hz ⟨.str _, H, I.tok _, ⟨_, rfl⟩, q⟩
theorem m_repr {e : Expr} {p pos : Pos} {f : EM} (hgd : X.A.guards = some []) (hu : X.A.units + 80 < cLine) (hg : Gl X "repr") (hm : X.mg "repr" = none) (he : PE X e (tE C X.K W f)) (hs : starEach (e :: []) X.env = (false, eval e X.env) :: starEach [] X.env) (hp : (backTo pos (starEach [] X.env)).any (·.1) = false) :
    PE X (.Call (.Name "repr" p) [e] [] pos) (tE C X.K W (e1 uRepr f)) :=
  pe_weak (pe_callB ((cr_reprD hgd hu).or call_repr_i) hg hm (by decide +kernel) (pa_cons he pa_nil hs) (by decide) (by decide) hs hp) fun σ H Q t => one_v (fun m H h x u Q s r p => by
    have go : ∀ {d}, toD h 66 x = some d → ((∃ xs, x = .tup xs) ∨ (∃ k, x = .ref k) ∨ (∃ xs, x = .fz xs)) → Post C X.K W σ m H (rV X.K) Q (rpr d h) → ∃ (a : Addr) (d : PyData), [u] = [V.ref a] ∧ Dp X.K H (.ref a) d ∧ SeqAt.shaped d = true ∧ d.showable = true ∧ d.shown.length ≤ sizeLine ∧ Q (.str d.shown) H := by
      intro d hd hx q
      obtain ⟨a, rfl⟩ := toD_ref (h := h) r hx
      unfold rpr at q
      split at q
      · rename_i hc
        exact ⟨a, d, rfl, toD_dp s _ _ _ _ r hd, hc.1, hc.2.1, hc.2.2, post_str s q⟩
      · exact q.elim
    unfold uRepr at p
    split at p
    · split at p
      · exact .inl (go (by assumption) (.inl ⟨_, rfl⟩) p)
      · exact p.elim
    · split at p
      · exact .inl (go (by assumption) (.inr (.inl ⟨_, rfl⟩)) p)
      · exact p.elim
    · split at p
      · exact .inl (go (by assumption) (.inr (.inr ⟨_, rfl⟩)) p)
      · exact p.elim
    · split at p
      · simp only [rV, VR] at r
        subst r
        exact .inr ⟨_, rfl, by assumption, post_str s p⟩
      · exact p.elim
    · exact p.elim) t
theorem optAll_dp {K : PySem.W.Frag} {m : List Addr} {H : Hp} {h : IH} (s : SR K m H h) : ∀ {xs : List IV} {vs : List V} {ds : List PyData}, VRs K m H xs vs → optAll (toD h 66) xs = some ds → DpAll K H vs ds
  | [], _, _, r, e => by
    simp only [VRs] at r
    subst r
    cases e
    exact .nil
  | x :: xs, _, _, r, e => by
    simp only [VRs] at r
    obtain ⟨v, q, rfl, r1, r2⟩ := r
    obtain ⟨d1, d2, e1, e2, rfl⟩ := optAll_cons e
    exact .cons (toD_dp s _ _ _ _ r1 e1) (optAll_dp s r2 e2)
theorem m_reprL {e : Expr} {p pos : Pos} {f : IEnv → IH → R (List IV)} (hgd : X.A.guards = some []) (hu : X.A.units + 80 < cLine) (hg : Gl X "repr") (hm : X.mg "repr" = none) (he : PE X e (tL C X.K W f)) (hs : starEach (e :: []) X.env = (false, eval e X.env) :: starEach [] X.env) (hp : (backTo pos (starEach [] X.env)).any (·.1) = false) :
    PE X (.Call (.Name "repr" p) [e] [] pos) (tE C X.K W (eReprL f)) :=
  pe_weak (pe_callB (cr_reprD hgd hu) hg hm (by decide +kernel) (pa_cons (pe_lL he) pa_nil hs) (by decide) (by decide) hs hp) fun σ H Q t => one_l (fun m H h xs a vs Q s q rr p => by
    split at p
    · rename_i ds hd
      unfold rpr at p
      split at p
      · rename_i hc
        exact ⟨a, .list ds, rfl, .lst q (optAll_dp s rr hd), hc.1, hc.2.1, hc.2.2, post_str s p⟩
      · exact p.elim
    · exact p.elim) t

/-! ### methods of lists -/
def MthM (X : Cx) (C : Cc) (id : String) (o : IV → List IV → IH → R IV) : Prop :=
  ∃ r, MtR X id r ∧ ∀ (W : WX) (σ : St) m H h x ys u vs (Q : VK), SR X.K m H h → VR X.K m H x u → VRs X.K m H ys vs → Post C X.K W σ m H (rV X.K) Q (o x ys h) → r u vs H Q
theorem m_meth {id : String} {name : Str} {o : IV → List IV → IH → R IV} {obj e : Expr} {es : List Expr} {apos pos : Pos} {f : EM} {g : IEnv → IH → R (List IV)} (hm : MthM X C id o) (ho : PE X obj (tE C X.K W f)) (ha : PA X (e :: es) (tA C X.K W g))
    (mk : ∀ {r : V → List V → Hp → VK → Prop} {t : TA} {to : TE}, MtR X id r → PE X obj to → PA X (e :: es) t → PE X (.Call (.Attribute obj name apos) (e :: es) [] pos) (tBM X.K "list" r to t)) :
    PE X (.Call (.Attribute obj name apos) (e :: es) [] pos) (tE C X.K W (eMth o f g)) := by
  obtain ⟨r, h1, h2⟩ := hm
  refine pe_weak (mk h1 ho ha) fun σ H Q ⟨m, env, h, er, sr, p⟩ => ⟨m, env, h, er, sr, tg_run p fun m1 H1 x hh u g1 s1 r1 p1 => ?_⟩
  cases x <;> first | exact p1.elim | skip
  rename_i k
  dsimp only at p1
  split at p1
  · rename_i xs hk
    obtain ⟨a, vs, e1, q, rr⟩ := s1.get hk
    have r2 : VR X.K m1 H1 (.ref k) u := r1
    simp only [VR] at r2
    obtain ⟨a', e2, rfl⟩ := r2
    rw [e1] at e2; cases e2
    refine ⟨.inl ⟨rfl, _, SqL.of q⟩, m1, env, hh, er.mono g1, s1, tg_run p1 fun m2 H2 ys h2' us g2 s2 r2 p2 => ?_⟩
    exact h2 W σ m2 H2 h2' _ ys _ us Q s2 (VR.mono g2 _ _ r1) r2 p2
  · exact p1.elim
theorem m_meth0 {id : String} {name : Str} {o : IV → List IV → IH → R IV} {obj : Expr} {apos pos : Pos} {f : EM} (hm : MthM X C id o) (ho : PE X obj (tE C X.K W f))
    (mk : ∀ {r : V → List V → Hp → VK → Prop} {to : TE}, MtR X id r → PE X obj to → PE X (.Call (.Attribute obj name apos) [] [] pos) (tBM0 X.K "list" r to)) :
    PE X (.Call (.Attribute obj name apos) [] [] pos) (tE C X.K W (eMth0 o f)) := by
  obtain ⟨r, h1, h2⟩ := hm
  refine pe_weak (mk h1 ho) fun σ H Q ⟨m, env, h, er, sr, p⟩ => ⟨m, env, h, er, sr, tg_run p fun m1 H1 x hh u g1 s1 r1 p1 => ?_⟩
  cases x <;> first | exact p1.elim | skip
  rename_i k
  dsimp only at p1
  split at p1
  · rename_i xs hk
    obtain ⟨a, vs, e1, q, rr⟩ := s1.get hk
    have r2 : VR X.K m1 H1 (.ref k) u := r1
    simp only [VR] at r2
    obtain ⟨a', e2, rfl⟩ := r2
    rw [e1] at e2; cases e2
    exact ⟨.inl ⟨rfl, _, SqL.of q⟩, h2 W σ m1 H1 hh _ [] _ [] Q s1 r1 (by simp only [VRs]) p1⟩
  · exact p1.elim
/-- a list of the small heap at hand -/
theorem lst_at {K : PySem.W.Frag} {m : List Addr} {H : Hp} {h : IH} {k : Nat} {u : V} {xs : List IV} (s : SR K m H h) (r : VR K m H (.ref k) u) (e : h[k]? = some (.lst xs)) : ∃ a vs, u = .ref a ∧ m[k]? = some a ∧ H a = some (.lst vs) ∧ VRs K m H xs vs := by
  obtain ⟨a, vs, e1, q, rr⟩ := s.get e
  simp only [VR] at r
  obtain ⟨a', e2, rfl⟩ := r
  rw [e1] at e2; cases e2
  exact ⟨a, vs, rfl, e1, q, rr⟩
/-- behind a store -/
theorem post_set {σ : St} {m : List Addr} {H : Hp} {h : IH} {Q : VK} {k : Nat} {a : Addr} {vs ws : List V} {ys : List IV} {x : IV} {u : V} (s : SR X.K m H h) (e : m[k]? = some a) (ha : H a = some (.lst vs)) (rr : VRs X.K m H ys ws) (r : VR X.K m H x u)
    (p : Post C X.K W σ m H (rV X.K) Q (.ok x (h.set k (.lst ys)))) : Q u (upd H a (.lst ws)) :=
  p m _ u (Go.write e ha) (s.write e ha rr) (VR.mono (Go.write e ha) _ _ r)
theorem one_of {K : PySem.W.Frag} {m : List Addr} {H : Hp} {y : IV} {us : List V} (r : VRs K m H [y] us) : ∃ v, us = [v] ∧ VR K m H y v := by
  simp only [VRs] at r
  obtain ⟨v, q, rfl, r1, rfl⟩ := r
  exact ⟨v, rfl, r1⟩
theorem MtM.r {X : Cx} {id : String} {r : V → List V → Hp → VK → Prop} (h : MtM X id r) : MtR X id r := h
theorem mm_append : MthM X C "list.append" mAppend := by
  refine ⟨_, mt_append, fun W σ m H h x ys u us Q s rx ry p => ?_⟩
  unfold mAppend at p
  split at p
  · rename_i k y
    split at p
    · rename_i xs hk
      split at p
      · rename_i hz
        obtain ⟨a, vs, rfl, e, q, rr⟩ := lst_at s rx hk
        obtain ⟨v, rfl, rv⟩ := one_of ry
        rw [rr.length] at hz
        exact ⟨a, vs, v, rfl, rfl, q, hz, post_set s e q (VRs.append rr (ys := [y]) (ws := [v]) (by simp only [VRs]; exact ⟨v, [], rfl, rv, rfl⟩)) (by simp only [VR]) p⟩
      · exact p.elim
    · exact p.elim
  · exact p.elim
theorem VRs.dropLast {K : PySem.W.Frag} {m : List Addr} {H : Hp} {xs : List IV} {vs : List V} (r : VRs K m H xs vs) : VRs K m H xs.dropLast vs.dropLast := by
  rw [List.dropLast_eq_take, List.dropLast_eq_take, ← r.length]
  exact VRs.take _ r
theorem mm_pop : MthM X C "list.pop" mPop := by
  refine ⟨_, MtR.or mt_pop mt_popAt, fun W σ m H h x ys u us Q s rx ry p => ?_⟩
  unfold mPop at p
  split at p
  · split at p
    · rename_i xs hk
      split at p
      · rename_i y hy
        obtain ⟨a, vs, rfl, e, q, rr⟩ := lst_at s rx hk
        simp only [VRs] at ry
        subst ry
        obtain ⟨v, h1, rv⟩ := rr.get hy
        rw [rr.length] at h1
        exact .inl ⟨a, vs, v, rfl, rfl, q, h1, post_set s e q rr.dropLast rv p⟩
      · exact p.elim
    · exact p.elim
  · split at p
    · rename_i xs hk
      split at p
      · rename_i hz
        split at p
        · rename_i j hj
          split at p
          · rename_i y hy
            obtain ⟨a, vs, rfl, e, q, rr⟩ := lst_at s rx hk
            obtain ⟨v, rfl, rv⟩ := one_of ry
            simp only [VR] at rv
            subst rv
            obtain ⟨v, h1, rv⟩ := rr.get hy
            rw [rr.length] at hj
            exact .inr ⟨a, vs, _, j, v, rfl, rfl, q, hz.1, hz.2, hj, h1, post_set s e q (rr.eraseIdx j) rv p⟩
          · exact p.elim
        · exact p.elim
      · exact p.elim
    · exact p.elim
  · exact p.elim
theorem idxOf_get : ∀ {xs : List IV} {x : IV} {j : Nat}, idxOf x xs = some j → ∃ z, xs[j]? = some z ∧ eqF z x = true ∧ ∀ (m : Nat) z', m < j → xs[m]? = some z' → eqF z' x = false
  | [], _, _, e => by cases e
  | y :: ys, x, j, e => by
    unfold idxOf at e
    split at e
    · rename_i hy
      cases e
      exact ⟨y, rfl, hy, fun m z' hm => absurd hm (Nat.not_lt_zero _)⟩
    · rename_i hy
      cases hi : idxOf x ys with
      | none => rw [hi] at e; cases e
      | some i =>
        rw [hi] at e; cases e
        obtain ⟨z, h1, h2, h3⟩ := idxOf_get hi
        refine ⟨z, by simpa using h1, h2, fun m z' hm hz => ?_⟩
        cases m with
        | zero =>
          simp at hz; subst hz
          simpa using hy
        | succ m => exact h3 m z' (Nat.lt_of_succ_lt_succ hm) (by simpa using hz)
theorem mm_index : MthM X C "list.index" mIndex := by
  refine ⟨_, mt_index, fun W σ m H h x ys u us Q s rx ry p => ?_⟩
  unfold mIndex at p
  split at p
  · split at p
    · rename_i xs hk
      split at p
      · rename_i hf
        split at p
        · rename_i j hj
          obtain ⟨a, vs, rfl, e, q, rr⟩ := lst_at s rx hk
          obtain ⟨v, rfl, rv⟩ := one_of ry
          obtain ⟨z, h1, h2, h3⟩ := idxOf_get hj
          obtain ⟨w, h4, rw'⟩ := rr.get h1
          have fz : flat z = true := List.all_eq_true.mp hf.2 z (List.mem_of_getElem? h1)
          refine ⟨a, vs, v, j, w, rfl, rfl, .of q, flat_of rv hf.1, flats_of rr hf.2, h4, by rw [eqF_of rw' rv fz hf.1]; exact h2, fun i w' hi hw => ?_, post_int s p⟩
          have hil : i < xs.length := by
            rw [rr.length]; exact (List.getElem?_eq_some_iff.mp hw).1
          obtain ⟨w2, h5, r5⟩ := rr.get (List.getElem?_eq_getElem hil)
          rw [hw] at h5; cases h5
          have f5 : flat xs[i] = true := List.all_eq_true.mp hf.2 _ (List.getElem_mem hil)
          rw [eqF_of r5 rv f5 hf.1]
          exact h3 i _ hi (List.getElem?_eq_getElem hil)
        · exact p.elim
      · exact p.elim
    · exact p.elim
  · exact p.elim
end
end
end MM
/-! M4: statements, targets, loops, comprehensions -/
namespace MM
open PySem L2

/-! ### equality of values, by form -/
mutual
def eqIV : IV → IV → Bool
  | .non, .non => true
  | .bl a, .bl b => a == b
  | .int a, .int b => a == b
  | .str a, .str b => a == b
  | .fz a, .fz b => eqIVs a b
  | .ref a, .ref b => a == b
  | .tup a, .tup b => eqIVs a b
  | _, _ => false
def eqIVs : List IV → List IV → Bool
  | [], [] => true
  | x :: xs, y :: ys => eqIV x y && eqIVs xs ys
  | _, _ => false
end
mutual
theorem eqIV_eq : ∀ (x y : IV), eqIV x y = true → x = y
  | .non, y, h => by cases y <;> first | rfl | (simp only [eqIV] at h; cases h)
  | .bl a, y, h => by cases y <;> first | (simp only [eqIV, beq_iff_eq] at h; rw [h]) | (simp only [eqIV] at h; cases h)
  | .int a, y, h => by cases y <;> first | (simp only [eqIV, beq_iff_eq] at h; rw [h]) | (simp only [eqIV] at h; cases h)
  | .str a, y, h => by cases y <;> first | (simp only [eqIV, beq_iff_eq] at h; rw [h]) | (simp only [eqIV] at h; cases h)
  | .fz a, y, h => by cases y <;> first | (simp only [eqIV] at h; rw [eqIVs_eq _ _ h]) | (simp only [eqIV] at h; cases h)
  | .ref a, y, h => by cases y <;> first | (simp only [eqIV, beq_iff_eq] at h; rw [h]) | (simp only [eqIV] at h; cases h)
  | .tup a, y, h => by cases y <;> first | (simp only [eqIV] at h; rw [eqIVs_eq _ _ h]) | (simp only [eqIV] at h; cases h)
theorem eqIVs_eq : ∀ (x y : List IV), eqIVs x y = true → x = y
  | [], [], _ => rfl
  | [], _ :: _, h => by simp only [eqIVs] at h; cases h
  | _ :: _, [], h => by simp only [eqIVs] at h; cases h
  | x :: xs, y :: ys, h => by
    simp only [eqIVs, Bool.and_eq_true] at h
    rw [eqIV_eq _ _ h.1, eqIVs_eq _ _ h.2]
end
mutual
theorem eqIV_refl : ∀ (x : IV), eqIV x x = true
  | .non => by simp only [eqIV]
  | .bl a => by simp [eqIV]
  | .int a => by simp [eqIV]
  | .str a => by simp [eqIV]
  | .fz a => by simp only [eqIV]; exact eqIVs_refl a
  | .ref a => by simp [eqIV]
  | .tup a => by simp only [eqIV]; exact eqIVs_refl a
theorem eqIVs_refl : ∀ (x : List IV), eqIVs x x = true
  | [] => by simp only [eqIVs]
  | x :: xs => by simp only [eqIVs, Bool.and_eq_true]; exact ⟨eqIV_refl x, eqIVs_refl xs⟩
end

abbrev SM := IEnv → IH → RS
abbrev GM := IV → IEnv → IH → Option (IEnv × IH)
abbrev ItM := IEnv → IH → R (List IV × (IH → Bool))

/-! ### combinators -/
def sNil : SM := fun e h => .nx e h
def sSeq (f g : SM) : SM := fun e h => match f e h with
  | .nx e1 h1 => g e1 h1
  | r => r
def RS.of {α : Type} (e : IEnv) (r : R α) (k : α → IH → RS) : RS := match r with
  | .ok a h => k a h
  | .exc x h => .exc x e h
  | .bad => .bad
def sExpr (f : EM) : SM := fun e h => RS.of e (f e h) fun _ h1 => .nx e h1
def sRet (f : EM) : SM := fun e h => RS.of e (f e h) fun v h1 => .rt v h1
def sRetN : SM := fun e h => .rt .non h
def sBrk : SM := fun e h => .bk e h
def sCont : SM := fun e h => .ct e h
def sBad : SM := fun _ _ => .bad
def sIf (c : IEnv → IH → R Bool) (f g : SM) : SM := fun e h => RS.of e (c e h) fun b h1 => if b = true then f e h1 else g e h1
def sAsg (f : EM) (g : GM) : SM := fun e h => RS.of e (f e h) fun v h1 => match g v e h1 with
  | some (e2, h2) => .nx e2 h2
  | none => .bad
def sAug (i : Nat) (o : IV → IV → IH → R IV) (f : EM) : SM := fun e h => match e[i]? with
  | some (some x) => RS.of e (f e h) fun y h1 => RS.of e (o x y h1) fun z h2 => .nx (e.set i (some z)) h2
  | _ => .bad
/-- a, b = x, y of plain names -/
def sPar (is : List Nat) (f : IEnv → IH → R (List IV)) : SM := fun e h => RS.of e (f e h) fun vs h1 => if vs.length = is.length then .nx ((is.zip vs).foldl (fun e p => e.set p.1 (some p.2)) e) h1 else .bad
def gNm (i : Nat) : GM := fun v e h => some (e.set i (some v), h)
def gNil' : List IV → IEnv → IH → Option (IEnv × IH)
  | [], e, h => some (e, h)
  | _, _, _ => none
def gCons' (g : GM) (k : List IV → IEnv → IH → Option (IEnv × IH)) : List IV → IEnv → IH → Option (IEnv × IH)
  | v :: vs, e, h => match g v e h with
    | some (e1, h1) => k vs e1 h1
    | none => none
  | [], _, _ => none
def gTp (n : Nat) (k : List IV → IEnv → IH → Option (IEnv × IH)) : GM := fun v e h => match v with
  | .tup xs => if xs.length = n then k xs e h else none
  | _ => none
/-- o[i] = v of a list -/
def gSb (o i : EM) : GM := fun v e h => match o e h with
  | .ok (.ref k) h1 => match i e h1 with
    | .ok (.int j) h2 => match h2[k]? with
      | some (.lst xs) => match ixN xs.length j with
        | some n => some (e, h2.set k (.lst (xs.set n v)))
        | none => none
      | _ => none
    | _ => none
  | _ => none
def forM (G : IH → Bool) (g : GM) (b : SM) : List IV → SM
  | [], e, h => if G h = true then .nx e h else .bad
  | x :: xs, e, h => if G h = true then match g x e h with
    | some (e1, h1) => match b e1 h1 with
      | .nx e2 h2 => forM G g b xs e2 h2
      | .ct e2 h2 => forM G g b xs e2 h2
      | .bk e2 h2 => .nx e2 h2
      | r => r
    | none => .bad else .bad
def sFor (it : ItM) (g : GM) (b : SM) : SM := fun e h => RS.of e (it e h) fun p h1 => forM p.2 g b p.1 e h1
def whileM (c : IEnv → IH → R Bool) (b : SM) : Nat → SM
  | 0, _, _ => .bad
  | n + 1, e, h => RS.of e (c e h) fun t h1 => if t = true then match b e h1 with
    | .nx e2 h2 => whileM c b n e2 h2
    | .ct e2 h2 => whileM c b n e2 h2
    | .bk e2 h2 => .nx e2 h2
    | r => r else .nx e h1
def sWhile (n : IEnv → IH → Nat) (c : IEnv → IH → R Bool) (b : SM) : SM := fun e h => whileM c b (n e h) e h
def wipeE (e : IEnv) : List Nat → IEnv
  | [] => e
  | v :: vs => (wipeE e vs).set v none
/-- no exception leaves a comprehension -/
def R.nox {α : Type} : R α → R α
  | .ok a h => .ok a h
  | _ => .bad
def lcM (G : IH → Bool) (g : GM) (c : IEnv → IH → R Bool) (f : EM) (e : IEnv) : List IV → IH → R (List IV)
  | [], h => if G h = true then .ok [] h else .bad
  | x :: xs, h => if G h = true then match g x e h with
    | some (e1, h1) => (c e1 h1).nox.bind fun t h2 => if t = true then (f e1 h2).nox.bind fun y h3 => (lcM G g c f e xs h3).bind fun ys h4 => .ok (y :: ys) h4 else lcM G g c f e xs h2
    | none => .bad else .bad
def lLc (own : List Nat) (it : ItM) (g : GM) (c : IEnv → IH → R Bool) (f : EM) : IEnv → IH → R (List IV) := fun e h => (it e h).bind fun p h1 => if p.1.length ≤ sizeLine then lcM p.2 g c f (wipeE e own) p.1 h1 else .bad
def tYesM : IEnv → IH → R Bool := fun _ h => .ok true h

/-! ### what is walked -/
def iTup (f : EM) : ItM := fun e h => (f e h).bind fun x h1 => match x with
  | .tup xs => .ok (xs, fun _ => true) h1
  | _ => .bad
def iFresh (f : IEnv → IH → R (List IV)) : ItM := fun e h => (f e h).bind fun xs h1 => .ok (xs, fun _ => true) h1
def stands (k : Nat) (xs : List IV) (h : IH) : Bool := match h[k]? with
  | some (.lst ys) => eqIVs ys xs
  | _ => false
def iLstV (f : EM) : ItM := fun e h => (f e h).bind fun x h1 => match x with
  | .fz xs => .ok (xs, fun _ => true) h1
  | .ref k => match h1[k]? with
    | some (.lst xs) => .ok (xs, stands k xs) h1
    | _ => .bad
  | _ => .bad
def iRg1 (f : EM) : ItM := fun e h => (f e h).bind fun x h1 => match x with
  | .int n => if rgOk 0 n = true then .ok (lRange 0 n, fun _ => true) h1 else .bad
  | _ => .bad
def iRg2 (f g : EM) : ItM := fun e h => (f e h).bind fun x h1 => (g e h1).bind fun y h2 => match x, y with
  | .int a, .int b => if rgOk a b = true then .ok (lRange a b, fun _ => true) h2 else .bad
  | _, _ => .bad
def enumFrom : Nat → List IV → List IV
  | _, [] => []
  | i, x :: xs => .tup [.int (i : Nat), x] :: enumFrom (i + 1) xs
/-- pairs of an index and an item -/
def iEnum (it : ItM) : ItM := fun e h => (it e h).bind fun p h1 => .ok (enumFrom 0 p.1, p.2) h1

/-! ### readings -/
def ItRel (K : PySem.W.Frag) (m : List Addr) (H : Hp) (J : It) (xs : List IV) (G : IH → Bool) : Prop :=
  ∃ (Gd : Hp → Prop) (Y : Nat → Hp → V → Hp → Prop), Walk J xs.length Gd Y ∧ ∀ m1 H1 h1, Go K m H m1 H1 → SR K m1 H1 h1 → G h1 = true → Gd H1 ∧
    ∀ i x H2, i < xs.length → Y i H1 x H2 → ∃ iv, xs[i]? = some iv ∧ Go K m1 H1 m1 H2 ∧ SR K m1 H2 h1 ∧ VR K m1 H2 iv x
def rI (K : PySem.W.Frag) : Rel (List IV × (IH → Bool)) It := fun _ _ m H p J => ItRel K m H J p.1 p.2
instance {K : PySem.W.Frag} : RelMono K (rI K) := ⟨fun _ r => r⟩
abbrev tIt (C : Cc) (K : PySem.W.Frag) (W : WX) (f : ItM) : TI := tG C K W (rI K) f

def PostS (C : Cc) (K : PySem.W.Frag) (W : WX) (m : List Addr) (H : Hp) (D : Ends) : RS → Prop
  | .nx e h => ∀ m' σ' H', Go K m H m' H' → ER K m' H' e σ' → SR K m' H' h → D.nx σ' H'
  | .rt v h => ∀ m' u H', Go K m H m' H' → VR K m' H' v u → SR K m' H' h → D.rt u H'
  | .bk e h => ∀ m' σ' H', Go K m H m' H' → ER K m' H' e σ' → SR K m' H' h → D.bk σ' H'
  | .ct e h => ∀ m' σ' H', Go K m H m' H' → ER K m' H' e σ' → SR K m' H' h → D.ct σ' H'
  | .exc x e h => ∀ m' σ' H' cls d, Go K m H m' H' → ER K m' H' e σ' → SR K m' H' h → XRel C K m' H' x cls d → W cls d σ' H'
  | .bad => False
def tS (C : Cc) (K : PySem.W.Frag) (W : WX) (f : SM) : TS := fun D σ H => ∃ m e h, ER K m H e σ ∧ SR K m H h ∧ PostS C K W m H D (f e h)
/-- slots outside ts stay -/
def Else (ts : List Nat) (σ σ' : St) : Prop := σ'.length = σ.length ∧ ∀ j, j ∉ ts → σ'[j]? = σ[j]?
def tGt (K : PySem.W.Frag) (ts : List Nat) (g : GM) : TG := fun v σ H Q => ∃ m e h x e' h', ER K m H e σ ∧ SR K m H h ∧ VR K m H x v ∧ g x e h = some (e', h') ∧
  ∀ m' σ' H', Go K m H m' H' → ER K m' H' e' σ' → SR K m' H' h' → Else ts σ σ' → Q σ' H'
def tGts (K : PySem.W.Frag) (ts : List Nat) (g : List IV → IEnv → IH → Option (IEnv × IH)) : TGs := fun vs σ H Q => ∃ m e h xs e' h', ER K m H e σ ∧ SR K m H h ∧ VRs K m H xs vs ∧ g xs e h = some (e', h') ∧
  ∀ m' σ' H', Go K m H m' H' → ER K m' H' e' σ' → SR K m' H' h' → Else ts σ σ' → Q σ' H'
theorem Else.refl {ts : List Nat} {σ : St} : Else ts σ σ := ⟨rfl, fun _ _ => rfl⟩
theorem Else.trans {ts us : List Nat} {σ σ1 σ2 : St} (a : Else ts σ σ1) (b : Else us σ1 σ2) : Else (ts ++ us) σ σ2 :=
  ⟨b.1.trans a.1, fun j hj => (b.2 j fun z => hj (List.mem_append_right _ z)).trans (a.2 j fun z => hj (List.mem_append_left _ z))⟩
theorem Else.set {i : Nat} {σ : St} {x : Option V} : Else [i] σ (σ.set i x) := ⟨by simp, fun j hj => List.getElem?_set_ne (fun z => hj (by simp [z]))⟩

section
variable {X : Cx} {C : Cc} {W : WX}
theorem PostS.mono {K : PySem.W.Frag} {m m' : List Addr} {H H' : Hp} {D : Ends} {r : RS} (g : Go K m H m' H') (p : PostS C K W m H D r) : PostS C K W m' H' D r := by
  cases r with
  | nx e h => exact fun m1 s1 H1 g1 => p m1 s1 H1 (g.trans g1)
  | rt e h => exact fun m1 s1 H1 g1 => p m1 s1 H1 (g.trans g1)
  | bk e h => exact fun m1 s1 H1 g1 => p m1 s1 H1 (g.trans g1)
  | ct e h => exact fun m1 s1 H1 g1 => p m1 s1 H1 (g.trans g1)
  | exc x e h => exact fun m1 s1 H1 c d g1 => p m1 s1 H1 c d (g.trans g1)
  | bad => exact p
/-- an expression within a statement -/
theorem ts_run {α β : Type} {rel : Rel α β} {K : PySem.W.Frag} {m : List Addr} {H : Hp} {D : Ends} {e : IEnv} {σ : St} {r : R α} {k : α → IH → RS} {T : β → Hp → Prop} (er : ER K m H e σ) (p : PostS C K W m H D (RS.of e r k))
    (hT : ∀ m' H' a h' u, Go K m H m' H' → SR K m' H' h' → ER K m' H' e σ → rel m H m' H' a u → PostS C K W m' H' D (k a h') → T u H') : Post C K W σ m H rel T r := by
  cases r with
  | ok a h' => exact fun m1 H1 u g s q => hT m1 H1 a h' u g s (er.mono g) q (p.mono g)
  | exc x h' => exact fun m1 H1 c d g s q => p m1 σ H1 c d g (er.mono g) s q
  | bad => exact p

theorem ms_nil : PSs X [] (tS C X.K W sNil) := pss_weak pss_nil fun D σ H ⟨m, e, h, er, sr, p⟩ => p m σ H Go.refl er sr
theorem ms_cons {st : Stmt} {rest : List Stmt} {f g : SM} (h1 : PS X st (tS C X.K W f)) (h2 : PSs X rest (tS C X.K W g)) : PSs X (st :: rest) (tS C X.K W (sSeq f g)) :=
  pss_weak (pss_cons h1 h2) fun D σ H ⟨m, e, h, er, sr, p⟩ => ⟨m, e, h, er, sr, by
    unfold sSeq at p
    cases hf : f e h with
    | nx e1 h1' =>
      rw [hf] at p
      exact fun m1 σ1 H1 g1 er1 sr1 => ⟨m1, e1, h1', er1, sr1, p.mono g1⟩
    | rt v h1' => rw [hf] at p; exact p
    | bk v h1' => rw [hf] at p; exact p
    | ct v h1' => rw [hf] at p; exact p
    | exc x v h1' => rw [hf] at p; exact p
    | bad => rw [hf] at p; exact p⟩
theorem ms_one {st : Stmt} {f : SM} (h1 : PS X st (tS C X.K W f)) : PSs X [st] (tS C X.K W f) := pss_one h1
theorem ms_pass {pos : Pos} : PS X (.Pass pos) (tS C X.K W sNil) := ps_weak ps_pass fun D σ H ⟨m, e, h, er, sr, p⟩ => p m σ H Go.refl er sr
theorem ms_doc {x : Str} {j : Nat} {pos pos' : Pos} : PS X (.Expr (.Constant (.str x) j pos) pos') (tS C X.K W sNil) := ps_weak ps_doc fun D σ H ⟨m, e, h, er, sr, p⟩ => p m σ H Go.refl er sr
theorem ms_brk {pos : Pos} : PS X (.Break pos) (tS C X.K W sBrk) := ps_weak ps_break fun D σ H ⟨m, e, h, er, sr, p⟩ => p m σ H Go.refl er sr
theorem ms_cont {pos : Pos} : PS X (.Continue pos) (tS C X.K W sCont) := ps_weak ps_continue fun D σ H ⟨m, e, h, er, sr, p⟩ => p m σ H Go.refl er sr
theorem ms_bad {st : Stmt} : PS X st (tS C X.K W sBad) := ps_weak ps_never fun D σ H ⟨m, e, h, er, sr, p⟩ => p
theorem ms_expr {ex : Expr} {f : EM} {pos : Pos} (he : PE X ex (tE C X.K W f)) (hs : swapsWith ex none pos.line X.env = pure false) : PS X (.Expr ex pos) (tS C X.K W (sExpr f)) :=
  ps_weak (ps_expr he hs) fun D σ H ⟨m, e, h, er, sr, p⟩ => ⟨m, e, h, er, sr, ts_run er p fun m1 H1 a h1 u g1 s1 er1 r1 p1 => p1 m1 σ H1 Go.refl er1 s1⟩
theorem ms_ret {ex : Expr} {f : EM} {pos : Pos} (he : PE X ex (tE C X.K W f)) : PS X (.Return (some ex) pos) (tS C X.K W (sRet f)) :=
  ps_weak (ps_ret he) fun D σ H ⟨m, e, h, er, sr, p⟩ => ⟨m, e, h, er, sr, ts_run er p fun m1 H1 a h1 u g1 s1 er1 r1 p1 => p1 m1 u H1 Go.refl r1 s1⟩
theorem ms_retN {pos : Pos} : PS X (.Return none pos) (tS C X.K W sRetN) := ps_weak ps_retN fun D σ H ⟨m, e, h, er, sr, p⟩ => p m .non H Go.refl (by simp only [VR]) sr
theorem ms_if {c : Expr} {a b : List Stmt} {t : IEnv → IH → R Bool} {f g : SM} {pos : Pos} (hc : PT X c (tT C X.K W t)) (ha : PSs X a (tS C X.K W f)) (hb : PSs X b (tS C X.K W g)) : PS X (.If c a b pos) (tS C X.K W (sIf t f g)) :=
  ps_weak (ps_if hc ha hb) fun D σ H ⟨m, e, h, er, sr, p⟩ => ⟨m, e, h, er, sr, ts_run er p fun m1 H1 x h1 u g1 s1 er1 r1 p1 => by
    subst r1
    cases x with
    | true => exact iteT ⟨m1, e, h1, er1, s1, p1⟩
    | false => exact iteF ⟨m1, e, h1, er1, s1, p1⟩⟩

/-! ### targets -/
theorem mg_name {i : Nat} {x : Str} {pos : Pos} (hN : X.N.Nodup) (hi : X.N[i]? = some x) (hx : Loc X.env.scope x) (hf : X.fn x = true ∨ X.env.scope.names.lookup x = some .local) : PG X (.Name x pos) (tGt X.K [i] (gNm i)) :=
  ⟨fun pins s σ H v u Q I r ⟨m, e, h, y, e', h', er, sr, vr, q, t⟩ => (pg_name hN hi hx hf).run pins s σ H v u Q I r (by
    cases q
    exact t m _ H Go.refl (er.set vr) sr Else.set)⟩
theorem mgs_nil : PGs X [] (tGts X.K [] gNil') :=
  ⟨fun pins s σ H vs us Q I r ⟨m, e, h, xs, e', h', er, sr, vr, q, t⟩ => pgs_nil.run pins s σ H vs us Q I r (by
    cases xs with
    | nil =>
      cases q
      simp only [VRs] at vr
      exact ⟨vr, t m σ H Go.refl er sr Else.refl⟩
    | cons _ _ => cases q)⟩
theorem mgs_cons {ex : Expr} {es : List Expr} {ts us : List Nat} {g : GM} {k : List IV → IEnv → IH → Option (IEnv × IH)} (h1 : PG X ex (tGt X.K ts g)) (h2 : PGs X es (tGts X.K us k))
    (hs : (assignEach (ex :: es) X.env).map (·.2) = assign ex X.env :: (assignEach es X.env).map (·.2)) : PGs X (ex :: es) (tGts X.K (ts ++ us) (gCons' g k)) :=
  ⟨fun pins s σ H vs us' Q I r ⟨m, e, h, xs, e', h', er, sr, vr, q, t⟩ => (pgs_cons h1 h2 hs).run pins s σ H vs us' Q I r (by
    cases xs with
    | nil => cases q
    | cons x xs =>
      simp only [VRs] at vr
      obtain ⟨v, rest, rfl, r1, r2⟩ := vr
      unfold gCons' at q
      dsimp only at q
      cases hg : g x e h with
      | none => rw [hg] at q; cases q
      | some p =>
        obtain ⟨e1, hh1⟩ := p
        rw [hg] at q
        exact ⟨v, rest, rfl, m, e, h, x, e1, hh1, er, sr, r1, hg, fun m1 σ1 H1 g1 er1 sr1 el1 => ⟨m1, e1, hh1, xs, e', h', er1, sr1, VRs.mono g1 _ _ r2, q, fun m2 σ2 H2 g2 er2 sr2 el2 => t m2 σ2 H2 (g1.trans g2) er2 sr2 (el1.trans el2)⟩⟩)⟩
theorem mg_tup {es : List Expr} {k n : Nat} {ts : List Nat} {g : List IV → IEnv → IH → Option (IEnv × IH)} {pos : Pos} (hc : X.calm = true) (h : PGs X es (tGts X.K ts g)) (hn : (assignEach es X.env).length = n) (hst : (assignEach es X.env).findIdx? (·.1) = none) :
    PG X (.Tuple es k pos) (tGt X.K ts (gTp n g)) :=
  ⟨fun pins s σ H v u Q I r ⟨m, e, hh, x, e', h', er, sr, vr, q, t⟩ => (pg_tup hc h hn hst).run pins s σ H v u Q I r (by
    cases x <;> first | cases q | skip
    rename_i xs
    unfold gTp at q
    simp only [VR] at vr
    obtain ⟨a, vs, rfl, tt, rr⟩ := vr
    dsimp only at q
    split at q
    · rename_i hl
      exact ⟨a, vs, rfl, tt.sq, by rw [← rr.length]; exact hl, m, e, hh, xs, e', h', er, sr, rr, q, t⟩
    · cases q)⟩
theorem mg_sub {o i : Expr} {fo fi : EM} {pos : Pos} (ho : PE X o (tE C X.K W fo)) (hi : PE X i (tE C X.K W fi))
    (ha : ∀ v, assign (.Subscript o i pos) X.env v = (do
      let ov ← holding [v] (eval o X.env)
      let iv ← holding [v, ov] (eval i X.env)
      standAt pos
      holding [v, ov, iv] (setItem ov iv v)
      release [v, ov, iv] [])) : PG X (.Subscript o i pos) (tGt X.K [] (gSb fo fi)) :=
  ⟨fun pins s σ H v u Q I r ⟨m, e, hh, x, e', h', er, sr, vr, q, t⟩ => (pg_sub ho hi set_list ha).run pins s σ H v u Q I r (by
    unfold gSb at q
    refine ⟨m, e, hh, er, sr, ?_⟩
    split at q
    · rename_i k h1 e1
      rw [e1]
      split at q
      · rename_i j h2 e2
        split at q
        · rename_i xs hk
          split at q
          · rename_i n hn
            cases q
            intro m1 H1 ou g1 s1 r1
            refine ⟨m1, e, h1, er.mono g1, s1, ?_⟩
            rw [e2]
            intro m2 H2 iu g2 s2 r2
            have r2 : VR X.K m2 H2 (.int j) iu := r2
            simp only [VR] at r2
            subst r2
            obtain ⟨a, vs, rfl, e3, q3, rr⟩ := lst_at s2 (VR.mono g2 _ _ r1) hk
            rw [rr.length] at hn
            refine ⟨a, vs, j, n, rfl, rfl, q3, hn, ?_⟩
            have g3 : Go X.K m2 H2 m2 (upd H2 a (.lst (vs.set n v))) := Go.write e3 q3
            have rv : VR X.K m2 H2 x v := VR.mono (g1.trans g2) _ _ vr
            exact t m2 σ _ ((g1.trans g2).trans g3) (er.mono ((g1.trans g2).trans g3)) (s2.write e3 q3 (VRs.set n rr rv)) Else.refl
          · cases q
        · cases q
      · cases q
    · cases q)⟩
theorem ms_asg {tg ex : Expr} {f : EM} {ts : List Nat} {g : GM} {pos : Pos} (he : PE X ex (tE C X.K W f)) (hg : PG X tg (tGt X.K ts g)) (hs : swapsWithSole [tg] ex pos.line X.env = pure false) (hw : swappedStores [tg] ex X.env = pure none)
    (h1 : (assignEach [tg] X.env).map (·.2) = [assign tg X.env]) : PS X (.Assign [tg] ex pos) (tS C X.K W (sAsg f g)) :=
  ps_weak (ps_asg he hg hs hw h1) fun D σ H ⟨m, e, h, er, sr, p⟩ => ⟨m, e, h, er, sr, ts_run er p fun m1 H1 x h1 u g1 s1 er1 r1 p1 => by
    cases q : g x e h1 with
    | none => rw [q] at p1; exact p1.elim
    | some pr =>
      obtain ⟨e2, h2⟩ := pr
      rw [q] at p1
      exact ⟨m1, e, h1, x, e2, h2, er1, s1, r1, q, fun m2 σ2 H2 g2 er2 sr2 _ => p1 m2 σ2 H2 g2 er2 sr2⟩⟩

/-! ### a, b = x, y -/
theorem ms_par {i j : Nat} {x y : Str} {a b : Expr} {f : IEnv → IH → R (List IV)} {px py pt pos : Pos} {kt k2 pt2} (hc : X.calm = true) (hN : X.N.Nodup) (hi : X.N[i]? = some x) (hj : X.N[j]? = some y) (hij : i ≠ j)
    (hx : X.env.scope.names.lookup x = some .local) (hy : X.env.scope.names.lookup y = some .local) (ha : PA X [a, b] (tA C X.K W f))
    (hw : swappedStores [.Tuple [.Name x px, .Name y py] kt pt] (.Tuple [a, b] k2 pt2) X.env = pure (some [x, y]))
    (hs : swapsWithSole [.Tuple [.Name x px, .Name y py] kt pt] (.Tuple [a, b] k2 pt2) pos.line X.env = pure false) :
    PS X (.Assign [.Tuple [.Name x px, .Name y py] kt pt] (.Tuple [a, b] k2 pt2) pos) (tS C X.K W (sPar [i, j] f)) :=
  ps_weak (L2.ps_par hc hN hi hj hij hx hy ha hw hs) fun D σ H ⟨m, e, h, er, sr, p⟩ => ⟨m, e, h, er, sr, ts_run er p fun m1 H1 vs h1 us g1 s1 er1 r1 p1 => by
    split at p1
    · rename_i hl
      match vs, hl, r1, p1 with
      | [u, w], _, r1, p1 =>
        have r1 : VRs X.K m1 H1 [u, w] us := r1
        simp only [VRs] at r1
        obtain ⟨v1, q1, rfl, ru, v2, q2, rfl, rw', rfl⟩ := r1
        exact ⟨v1, v2, rfl, p1 m1 _ H1 Go.refl ((er1.set ru).set rw') s1⟩
    · exact p1.elim⟩

/-! ### name op= e -/
def IpM (X : Cx) (C : Cc) (op : Operator) (o : IV → IV → IH → R IV) : Prop :=
  ∃ r, PIp X op r ∧ ∀ (W : WX) (σ : St) m H h x y u v (Q : VK), SR X.K m H h → VR X.K m H x u → VR X.K m H y v → Post C X.K W σ m H (rV X.K) Q (o x y h) → r u v H Q
theorem ip_of {op : Operator} {o : IV → IV → IH → R IV} {r : R2} (h1 : OpR X (inplaceOp op) r) (h2 : ∀ (W : WX) (σ : St) m H h x y u v (Q : VK), SR X.K m H h → VR X.K m H x u → VR X.K m H y v → Post C X.K W σ m H (rV X.K) Q (o x y h) → r u v H Q) : IpM X C op o :=
  ⟨r, fun pins s σ H x y v u Q I rx ry h => h1 pins s σ H x y v u Q I rx ry h, h2⟩
def bAddI : IV → IV → IH → R IV
  | .int i, .int j, h => .ok (.int (i + j)) h
  | .str a, .str b, h => if a.length + b.length ≤ sizeLine then .ok (.str (a ++ b)) h else .bad
  | _, _, _ => .bad
theorem im_add : IpM X C .Add bAddI := ip_of (iop_add.or iop_add_str) fun W σ m H h x y u v Q s rx ry p => by
  unfold bAddI at p
  split at p
  · simp only [rV, VR] at rx ry
    subst rx; subst ry
    exact .inl ⟨_, _, rfl, rfl, post_int s p⟩
  · simp only [rV, VR] at rx ry
    subst rx; subst ry
    split at p
    · exact .inr ⟨_, _, rfl, rfl, by assumption, post_str s p⟩
    · exact p.elim
  · exact p.elim
theorem im_sub : IpM X C .Sub bSub := ip_of iop_sub fun W σ m H h x y u v Q s rx ry p => by
  unfold bSub at p
  split at p
  · simp only [rV, VR] at rx ry
    subst rx; subst ry
    exact ⟨_, _, rfl, rfl, post_int s p⟩
  · exact p.elim
def bMulI : IV → IV → IH → R IV
  | .int i, .int j, h => if ((-(2 ^ 64) < i ∧ i < 2 ^ 64) ∨ (-(2 ^ 64) < j ∧ j < 2 ^ 64)) then .ok (.int (i * j)) h else .bad
  | _, _, _ => .bad
theorem im_mul : IpM X C .Mult bMulI := ip_of iop_mul fun W σ m H h x y u v Q s rx ry p => by
  unfold bMulI at p
  split at p
  · simp only [rV, VR] at rx ry
    subst rx; subst ry
    split at p
    · exact ⟨_, _, rfl, rfl, by assumption, post_int s p⟩
    · exact p.elim
  · exact p.elim
theorem im_mod : IpM X C .Mod bMod := ip_of iop_mod fun W σ m H h x y u v Q s rx ry p => by
  unfold bMod at p
  split at p
  · simp only [rV, VR] at rx ry
    subst rx; subst ry
    split at p
    · exact ⟨_, _, rfl, rfl, by assumption, post_int s p⟩
    · exact p.elim
  · exact p.elim
theorem im_div : IpM X C .FloorDiv bDiv := ip_of iop_fdivW fun W σ m H h x y u v Q s rx ry p => by
  unfold bDiv at p
  split at p
  · simp only [rV, VR] at rx ry
    subst rx; subst ry
    split at p
    · exact ⟨_, _, rfl, rfl, by assumption, post_int s p⟩
    · exact p.elim
  · exact p.elim
theorem ms_aug {i : Nat} {x : Str} {ex : Expr} {f : EM} {op : Operator} {o : IV → IV → IH → R IV} {pos pos' : Pos} (hN : X.N.Nodup) (hi : X.N[i]? = some x) (hx : Loc X.env.scope x) (he : PE X ex (tE C X.K W f)) (ho : IpM X C op o)
    (hf : X.fn x = true ∨ X.env.scope.names.lookup x = some .local) : PS X (.AugAssign (.Name x pos') op ex pos) (tS C X.K W (sAug i o f)) := by
  obtain ⟨r, h1, h2⟩ := ho
  refine ps_weak (L2.ps_aug hN hi hx he h1 hf) fun D σ H ⟨m, e, h, er, sr, p⟩ => ?_
  unfold sAug at p
  cases q : e[i]? with
  | none => rw [q] at p; exact p.elim
  | some q' =>
    cases q' with
    | none => rw [q] at p; exact p.elim
    | some y =>
      rw [q] at p
      obtain ⟨u, hu, ru⟩ := er.at_ i y q
      refine ⟨u, hu, m, e, h, er, sr, ts_run er p fun m1 H1 z h1 v g1 s1 er1 r1 p1 => ?_⟩
      refine h2 W σ m1 H1 h1 y z u v _ s1 (VR.mono g1 _ _ ru) r1 (ts_run er1 p1 fun m2 H2 t h3 w g2 s2 er2 r2 p2 => ?_)
      exact p2 m2 _ H2 Go.refl (er2.set r2) s2

/-! ### for -/
theorem loop_go {K : PySem.W.Frag} {ts : List Nat} {g : GM} {b : SM} {G : IH → Bool} {m : List Addr} {H : Hp} {J : It} {xs : List IV} {D : Ends} {e : IEnv} {h : IH} {σ : St} (ir : ItRel K m H J xs G) (er : ER K m H e σ) (sr : SR K m H h)
    (p : PostS C K W m H D (forM G g b xs e h)) :
    ∃ Wv : Nat → Nat → St → Hp → Prop, (∃ n, Wv 0 n σ H) ∧ ∀ i n σ H, Wv i n σ H → (J.stop i H ∧ D.nx σ H) ∨ (J.go i H ∧ ∃ N : St → Hp → Prop, (∀ σ' H', N σ' H' → ∃ n', n' < n ∧ Wv (i + 1) n' σ' H') ∧
      ∀ x H', J.yld i H x H' → tGt K ts g x σ H' fun σ2 H2 => tS C K W b { D with nx := N, ct := N, bk := D.nx } σ2 H2) := by
  obtain ⟨Gd, Y, wk, hir⟩ := ir
  refine for_it wk (g := tGt K ts g) (tb := tS C K W b) (D := D) (σ := σ) (H := H) (fun i σ1 H1 => ∃ m1 e1 h1, Go K m H m1 H1 ∧ ER K m1 H1 e1 σ1 ∧ SR K m1 H1 h1 ∧ PostS C K W m1 H1 D (forM G g b (xs.drop i) e1 h1)) ?_ ?_ ?_ ?_
  · exact ⟨m, e, h, Go.refl, er, sr, by simpa using p⟩
  · rintro i σ1 H1 hi ⟨m1, e1, h1, g1, er1, sr1, p1⟩
    have hG : G h1 = true := by
      cases hx : xs.drop i with
      | nil => rw [hx] at p1; unfold forM at p1; split at p1; assumption; exact p1.elim
      | cons x r => rw [hx] at p1; unfold forM at p1; split at p1; assumption; exact p1.elim
    exact (hir m1 H1 h1 g1 sr1 hG).1
  · rintro i x σ1 H1 H2 hi ⟨m1, e1, h1, g1, er1, sr1, p1⟩ hY
    have hx : xs.drop i = xs[i] :: xs.drop (i + 1) := List.drop_eq_getElem_cons hi
    rw [hx] at p1
    unfold forM at p1
    split at p1
    · rename_i hG
      obtain ⟨iv, h3, g2, sr2, vr2⟩ := (hir m1 H1 h1 g1 sr1 hG).2 i x H2 hi hY
      rw [List.getElem?_eq_getElem hi] at h3
      cases h3
      split at p1
      · rename_i e2 h2 hg
        refine ⟨m1, e1, h1, xs[i], e2, h2, er1.mono g2, sr2, vr2, hg, fun m3 σ3 H3 g3 er3 sr3 _ => ⟨m3, e2, h2, er3, sr3, ?_⟩⟩
        have p2 := p1.mono (g2.trans g3)
        have back : ∀ e4 h4, PostS C K W m3 H3 D (forM G g b (xs.drop (i + 1)) e4 h4) → ∀ m' σ' H', Go K m3 H3 m' H' → ER K m' H' e4 σ' → SR K m' H' h4 →
            ∃ m1 e1 h1, Go K m H m1 H' ∧ ER K m1 H' e1 σ' ∧ SR K m1 H' h1 ∧ PostS C K W m1 H' D (forM G g b (xs.drop (i + 1)) e1 h1) :=
          fun e4 h4 q m' σ' H' g4 er4 sr4 => ⟨m', e4, h4, ((g1.trans g2).trans g3).trans g4, er4, sr4, q.mono g4⟩
        cases hb : b e2 h2 with
        | nx e4 h4 => rw [hb] at p2; exact back e4 h4 p2
        | ct e4 h4 => rw [hb] at p2; exact back e4 h4 p2
        | bk e4 h4 => rw [hb] at p2; exact p2
        | rt v h4 => rw [hb] at p2; exact p2
        | exc x e4 h4 => rw [hb] at p2; exact p2
        | bad => rw [hb] at p2; exact p2
      · exact p1.elim
    · exact p1.elim
  · rintro σ1 H1 ⟨m1, e1, h1, g1, er1, sr1, p1⟩
    rw [List.drop_length] at p1
    unfold forM at p1
    split at p1
    · exact p1 m1 σ1 H1 Go.refl er1 sr1
    · exact p1.elim
theorem ms_for {iter tg : Expr} {body : List Stmt} {it : ItM} {ts : List Nat} {g : GM} {b : SM} {pos : Pos} (hp : PassesOwn (model X.prog X.w) X.A X.env X.xe) (hc : X.calm = true) (hi : PI X tg iter (tIt C X.K W it)) (hg : PG X tg (tGt X.K ts g)) (hb : PSs X body (tS C X.K W b))
    (mk : ∀ {wi : TI} {g : TG} {tb : TS}, PassesOwn (model X.prog X.w) X.A X.env X.xe → X.calm = true → PI X tg iter wi → PG X tg g → PSs X body tb → PS X (.For tg iter body [] pos) (tFor wi g tb)) :
    PS X (.For tg iter body [] pos) (tS C X.K W (sFor it g b)) :=
  ps_weak (mk hp hc hi hg hb) fun D σ H ⟨m, e, h, er, sr, p⟩ => ⟨m, e, h, er, sr, ts_run er p fun m1 H1 pr h1 J g1 s1 er1 r1 p1 => loop_go r1 er1 s1 p1⟩

/-! ### while -/
theorem ms_while {c : Expr} {body : List Stmt} {n : IEnv → IH → Nat} {t : IEnv → IH → R Bool} {b : SM} {pos : Pos} (hp : PassesOwn (model X.prog X.w) X.A X.env X.xe) (hc : PT X c (tT C X.K W t)) (hb : PSs X body (tS C X.K W b)) :
    PS X (.While c body [] pos) (tS C X.K W (sWhile n t b)) :=
  ps_weak (L2.ps_while hp hc hb) fun D σ H ⟨m, e, h, er, sr, p⟩ => by
    refine ⟨fun k σ1 H1 => ∃ m1 e1 h1, Go X.K m H m1 H1 ∧ ER X.K m1 H1 e1 σ1 ∧ SR X.K m1 H1 h1 ∧ PostS C X.K W m1 H1 D (whileM t b k e1 h1), ⟨n e h, m, e, h, Go.refl, er, sr, p⟩, ?_⟩
    rintro k σ1 H1 ⟨m1, e1, h1, g1, er1, sr1, p1⟩
    cases k with
    | zero => exact p1.elim
    | succ k =>
      unfold whileM at p1
      refine ⟨m1, e1, h1, er1, sr1, ts_run er1 p1 fun m2 H2 x h2 u g2 s2 er2 r2 p2 => ?_⟩
      subst r2
      cases x with
      | false => exact iteF (p2 m2 σ1 H2 Go.refl er2 s2)
      | true =>
        refine iteT ⟨fun σ3 H3 => ∃ m1 e1 h1, Go X.K m H m1 H3 ∧ ER X.K m1 H3 e1 σ3 ∧ SR X.K m1 H3 h1 ∧ PostS C X.K W m1 H3 D (whileM t b k e1 h1), fun σ' H' q => ⟨k, Nat.lt_succ_self k, q⟩, m2, e1, h2, er2, s2, ?_⟩
        simp only [if_true] at p2
        cases hb : b e1 h2 with
        | nx e4 h4 => rw [hb] at p2; exact fun m3 σ3 H3 g3 er3 sr3 => ⟨m3, e4, h4, (g1.trans g2).trans g3, er3, sr3, p2.mono g3⟩
        | ct e4 h4 => rw [hb] at p2; exact fun m3 σ3 H3 g3 er3 sr3 => ⟨m3, e4, h4, (g1.trans g2).trans g3, er3, sr3, p2.mono g3⟩
        | bk e4 h4 => rw [hb] at p2; exact p2
        | rt v h4 => rw [hb] at p2; exact p2
        | exc x e4 h4 => rw [hb] at p2; exact p2
        | bad => rw [hb] at p2; exact p2

/-! ### iterables -/
theorem walkAt {K : PySem.W.Frag} {m : List Addr} {H : Hp} {xs : List IV} {vs : List V} {J : It} {Gd : Hp → Prop} {G : IH → Bool} (w : Walk J vs.length Gd (YAt vs)) (r : VRs K m H xs vs)
    (hG : ∀ m1 H1 h1, Go K m H m1 H1 → SR K m1 H1 h1 → G h1 = true → Gd H1) : ItRel K m H J xs G := by
  refine ⟨Gd, YAt vs, by rw [r.length]; exact w, fun m1 H1 h1 g s q => ⟨hG m1 H1 h1 g s q, fun i x H2 hi ⟨e, hx⟩ => ?_⟩⟩
  subst e
  obtain ⟨v, h1', h2'⟩ := r.get (List.getElem?_eq_getElem hi)
  rw [hx] at h1'; cases h1'
  exact ⟨_, List.getElem?_eq_getElem hi, Go.refl, s, VR.mono g _ _ h2'⟩
theorem mi_tup {tg ex : Expr} {f : EM} (he : PE X ex (tE C X.K W f)) : PI X tg ex (tIt C X.K W (iTup f)) :=
  ⟨fun pins s σ H R I ⟨m, e, h, er, sr, p⟩ => (pi_tup (tg := tg) he).run pins s σ H R I ⟨m, e, h, er, sr, tg_run p fun m1 H1 x h1 u g1 s1 r1 p1 => by
    cases x <;> first | exact p1.elim | skip
    rename_i xs
    simp only [rV, VR] at r1
    obtain ⟨a, vs, rfl, t, rr⟩ := r1
    exact ⟨a, rfl, ⟨vs, t.sq⟩, p1 m1 H1 _ Go.refl s1 (walkAt walk_tup rr fun m2 H2 h2 g s q => (g.tup _ _ t).sq)⟩⟩⟩
theorem mi_fresh {tg ex : Expr} {f : IEnv → IH → R (List IV)} (he : PE X ex (tL C X.K W f)) : PI X tg ex (tIt C X.K W (iFresh f)) :=
  ⟨fun pins s σ H R I ⟨m, e, h, er, sr, p⟩ => (pi_list (tg := tg) he).run pins s σ H R I ⟨m, e, h, er, sr, tg_run p fun m1 H1 xs h1 u g1 s1 r1 p1 => by
    obtain ⟨a, vs, rfl, n, _, q, rr⟩ := r1
    exact ⟨a, rfl, ⟨vs, .of q⟩, p1 m1 H1 _ Go.refl s1 (walkAt walk_list rr fun m2 H2 h2 g s _ => .of (g.fr _ _ q n))⟩⟩⟩
theorem mi_lstV {tg ex : Expr} {f : EM} (he : PE X ex (tE C X.K W f)) : PI X tg ex (tIt C X.K W (iLstV f)) :=
  ⟨fun pins s σ H R I ⟨m, e, h, er, sr, p⟩ => (pi_list (tg := tg) he).run pins s σ H R I ⟨m, e, h, er, sr, tg_run p fun m1 H1 x h1 u g1 s1 r1 p1 => by
    cases x <;> first | exact p1.elim | skip
    · rename_i ys
      simp only [rV, VR] at r1
      obtain ⟨a, vs, rfl, q, rr⟩ := r1
      exact ⟨a, rfl, ⟨_, q.list⟩, p1 m1 H1 _ Go.refl s1 (walkAt walk_list rr fun m2 H2 h2 g s _ => (g.scr q).list)⟩
    · rename_i k
      dsimp only at p1
      split at p1
      · rename_i xs hk
        obtain ⟨a, vs, rfl, e1, q, rr⟩ := lst_at s1 r1 hk
        refine ⟨a, rfl, ⟨vs, .of q⟩, p1 m1 H1 _ Go.refl s1 ?_⟩
        -- while the list stands, so does the heap's
        refine ⟨fun H2 => SqL X.K H2 a vs ∨ ∃ ws, SqL X.K H2 a ws ∧ ws.length = vs.length, fun i H x H' => H' = H ∧ ∀ ws, SqL X.K H a ws → ws[i]? = some x, ?_, fun m2 H2 h2 g s2 hs => ?_⟩
        · rw [rr.length]
          refine ⟨fun i H hi h => ?_, fun H h => ?_, fun i H x H' hi h y => y⟩
          · rcases h with h | ⟨ws, h, e⟩
            · exact ⟨vs, vs[i], h, List.getElem?_eq_getElem hi⟩
            · exact ⟨ws, ws[i]'(by rw [e]; exact hi), h, List.getElem?_eq_getElem _⟩
          · rcases h with h | ⟨ws, h, e⟩
            · exact ⟨vs, h, Nat.le_refl _⟩
            · exact ⟨ws, h, by rw [e]; exact Nat.le_refl _⟩
        · unfold stands at hs
          dsimp only at hs
          split at hs
          · rename_i ys hy
            have e2 := eqIVs_eq _ _ hs
            subst e2
            obtain ⟨a2, ws, e3, q3, r3⟩ := s2.get hy
            rw [g.pre _ _ e1] at e3; cases e3
            refine ⟨.inr ⟨ws, .of q3, by rw [← r3.length, rr.length]⟩, fun i x H3 _ ⟨e4, hx⟩ => ?_⟩
            subst e4
            have hw := hx ws (.of q3)
            have hi : i < ys.length := by rw [r3.length]; exact (List.getElem?_eq_some_iff.mp hw).1
            obtain ⟨v, h5, h6⟩ := r3.get (List.getElem?_eq_getElem hi)
            rw [hw] at h5; cases h5
            exact ⟨_, List.getElem?_eq_getElem hi, Go.refl, s2, h6⟩
          · cases hs
      · exact p1.elim⟩⟩
theorem range_rel {K : PySem.W.Frag} {m : List Addr} {H : Hp} {lo hi : Int} : ItRel K m H (Itr lo (hi - lo).toNat) (lRange lo hi) (fun _ => true) := by
  have hl : (lRange lo hi).length = (hi - lo).toNat := by unfold lRange; rw [List.length_map, List.length_range]
  refine ⟨fun _ => True, YFn fun i => .int (lo + i), by rw [hl]; exact walk_range, fun m1 H1 h1 g s _ => ⟨trivial, fun i x H2 hi ⟨e, hx⟩ => ?_⟩⟩
  subst e
  refine ⟨.int (lo + (i : Nat)), ?_, Go.refl, s, by simp only [VR]; exact hx⟩
  unfold lRange at hi ⊢
  rw [List.length_map, List.length_range] at hi
  rw [List.getElem?_map, List.getElem?_range hi]
  rfl
theorem mi_rg1 {tg a : Expr} {f : EM} {p pos : Pos} (hg : Gl X "range") (hm : X.mg "range" = none) (ha : PE X a (tE C X.K W f)) (hs : starEach [a] X.env = [(false, eval a X.env)]) (hs' : starEach (a :: []) X.env = (false, eval a X.env) :: starEach [] X.env) :
    PI X tg (.Call (.Name "range" p) [a] [] pos) (tIt C X.K W (iRg1 f)) :=
  ⟨fun pins s σ H R I ⟨m, e, h, er, sr, pp⟩ => (pi_range1 (tg := tg) hg hm (pa_cons ha pa_nil hs') hs).run pins s σ H R I ⟨m, e, h, er, sr, tg_run pp fun m1 H1 x h1 u g1 s1 r1 p1 => by
    cases x <;> first | exact p1.elim | skip
    rename_i i
    simp only [rV, VR] at r1
    subst r1
    dsimp only at p1
    split at p1
    · rename_i hk
      unfold rgOk at hk
      have hk' := of_decide_eq_true hk
      refine ⟨i, rfl, hk'.2.2.1, hk'.2.2.2.1, p1 m1 H1 _ Go.refl s1 ?_⟩
      have q := range_rel (K := X.K) (m := m1) (H := H1) (lo := 0) (hi := i)
      rw [Int.sub_zero] at q
      exact q
    · exact p1.elim⟩⟩
theorem mi_rg2 {tg a b : Expr} {f f2 : EM} {p pos : Pos} (hg : Gl X "range") (hm : X.mg "range" = none) (ha : PE X a (tE C X.K W f)) (hb : PE X b (tE C X.K W f2)) (hs : starEach [a, b] X.env = [(false, eval a X.env), (false, eval b X.env)]) (hs2 : starEach [b] X.env = [(false, eval b X.env)])
    (hs' : starEach (a :: [b]) X.env = (false, eval a X.env) :: starEach [b] X.env) (hs2' : starEach (b :: []) X.env = (false, eval b X.env) :: starEach [] X.env) :
    PI X tg (.Call (.Name "range" p) [a, b] [] pos) (tIt C X.K W (iRg2 f f2)) :=
  ⟨fun pins s σ H R I ⟨m, e, h, er, sr, pp⟩ => (pi_range2 (tg := tg) hg hm (pa_cons ha (pa_cons hb pa_nil hs2') hs') hs hs2).run pins s σ H R I ⟨m, e, h, er, sr, tg_run pp fun m1 H1 x h1 u g1 s1 r1 p1 => ⟨m1, e, h1, er.mono g1, s1, tg_run p1 fun m2 H2 y h2 v g2 s2 r2 p2 => by
    cases x <;> first | exact p2.elim | skip
    cases y <;> first | exact p2.elim | skip
    rename_i i j
    simp only [rV, VR] at r1 r2
    subst r1; subst r2
    dsimp only at p2
    split at p2
    · rename_i hk
      unfold rgOk at hk
      have hk' := of_decide_eq_true hk
      exact ⟨i, j, rfl, ⟨hk'.1, hk'.2.1, hk'.2.2.1, hk'.2.2.2.1⟩, p2 m2 H2 _ Go.refl s2 range_rel⟩
    · exact p2.elim⟩⟩⟩

/-! ### comprehensions -/
theorem ER.wipe {K : PySem.W.Frag} {m : List Addr} {H : Hp} {e : IEnv} {σ : St} (er : ER K m H e σ) : ∀ vs : List Nat, ER K m H (wipeE e vs) (L2.wipe σ vs)
  | [] => er
  | v :: vs => by
    have q := ER.wipe er vs
    refine ⟨by simp only [wipeE, L2.wipe, List.length_set]; exact q.len, fun i x h => ?_⟩
    simp only [wipeE, L2.wipe] at h ⊢
    by_cases hj : v = i
    · subst hj
      rw [List.getElem?_set] at h
      simp at h
    · rw [List.getElem?_set_ne hj] at h ⊢
      exact q.at_ i x h
theorem wipe_in {σ : St} : ∀ {vs : List Nat} {i : Nat}, i ∈ vs → i < σ.length → (L2.wipe σ vs)[i]? = some none
  | v :: vs, i, hi, hl => by
    unfold L2.wipe
    by_cases hv : v = i
    · subst hv
      rw [List.getElem?_set_self (by rw [wipe_length]; exact hl)]
    · rw [List.getElem?_set_ne hv]
      rcases List.mem_cons.mp hi with e | e
      · exact absurd e.symm hv
      · exact wipe_in e hl
theorem wipe_out' {σ : St} : ∀ {vs : List Nat} {i : Nat}, i ∉ vs → (L2.wipe σ vs)[i]? = σ[i]?
  | [], _, _ => rfl
  | v :: vs, i, hi => by
    unfold L2.wipe
    rw [List.getElem?_set_ne (fun z => hi (by simp [z]))]
    exact wipe_out' fun z => hi (List.mem_cons_of_mem _ z)
/-- a store to the block's own names is forgotten by wiping -/
theorem wipe_else {σ σ2 : St} {ts vs : List Nat} (el : Else ts (L2.wipe σ vs) σ2) (sub : ∀ t ∈ ts, t ∈ vs) : L2.wipe σ2 vs = L2.wipe σ vs := by
  refine List.ext_getElem? fun i => ?_
  have hl : σ2.length = σ.length := by rw [el.1, wipe_length]
  by_cases hi : i ∈ vs
  · by_cases hlt : i < σ.length
    · rw [wipe_in hi (by rw [hl]; exact hlt), wipe_in hi hlt]
    · rw [List.getElem?_eq_none (by rw [wipe_length, hl]; omega), List.getElem?_eq_none (by rw [wipe_length]; omega)]
  · rw [wipe_out' hi, el.2 i fun z => hi (sub i z)]
theorem m_lc {elt tg iter : Expr} {ifs : List Expr} {scope : Scope} {own : List (Str × Nat)} {it : ItM} {ts : List Nat} {g : GM} {c : IEnv → IH → R Bool} {f : EM} (hc : X.calm = true) (hN : X.N.Nodup) (hi : PI X tg iter (tIt C X.K W it)) (ok : BlkOk X.N X.env.scope scope own) (sub : ∀ t ∈ ts, t ∈ own.map (·.2))
    (hg : ∀ (s : Shared) (H : Hp) (D : Addr) (cl : List (Str × Addr)) (fp : List Addr), PG (X.blk s H scope (compEnvC scope cl D X.env) fp) tg (tGt X.K ts g)) (ht : ∀ (s : Shared) (H : Hp) (D : Addr) (cl : List (Str × Addr)) (fp : List Addr), PTs (X.blk s H scope (compEnvC scope cl D X.env) fp) ifs (tT C X.K (fun _ _ _ _ => False) c))
    (he : ∀ (s : Shared) (H : Hp) (D : Addr) (cl : List (Str × Addr)) (fp : List Addr), PE (X.blk s H scope (compEnvC scope cl D X.env) fp) elt (tE C X.K (fun _ _ _ _ => False) f)) :
    ∀ σ H Q, tL C X.K W (lLc (own.map (·.2)) it g c f) σ H Q → tLc (tIt C X.K W it) (tGt X.K ts g) (tT C X.K (fun _ _ _ _ => False) c) (tE C X.K (fun _ _ _ _ => False) f) (own.map (·.2)) σ H Q := by
  rintro σ H Q ⟨m, e, h, er, sr, p⟩
  refine ⟨m, e, h, er, sr, tg_run p fun m1 H1 pr h1 J g1 s1 r1 p1 => ?_⟩
  obtain ⟨xs, G⟩ := pr
  dsimp only at p1
  split at p1
  rotate_left
  · exact p1.elim
  rename_i hz
  intro D hD
  obtain ⟨Gd, Y, wk, hir⟩ := r1
  dsimp only at wk hir
  have gD : Go X.K m1 H1 m1 (upd H1 D (.lst [])) := Go.laid hD
  have nD : D ∉ m1 := s1.fresh hD
  generalize hL : lcM G g c f (wipeE e (own.map (·.2))) xs h1 = L at p1
  have eq0 : L = (lcM G g c f (wipeE e (own.map (·.2))) (xs.drop 0) h1).bind fun ys h3 => .ok ([] ++ ys) h3 := by
    rw [List.drop_zero, ← hL]
    cases lcM G g c f (wipeE e (own.map (·.2))) xs h1 <;> rfl
  have gd : ∀ {ys : List IV} {h2 : IH} {acc : List IV}, L = (lcM G g c f (wipeE e (own.map (·.2))) ys h2).bind (fun ys h3 => .ok (acc ++ ys) h3) → G h2 = true := by
    intro ys h2 acc eq
    cases hG : G h2 with
    | true => rfl
    | false =>
      have z : lcM G g c f (wipeE e (own.map (·.2))) ys h2 = .bad := by
        cases ys <;> (unfold lcM; rw [hG]; rfl)
      rw [z] at eq
      rw [eq] at p1
      exact p1.elim
  refine lc_it wk (fun i H2 => ∃ m2 h2 acc accV, Go X.K m1 H1 m2 H2 ∧ SR X.K m2 H2 h2 ∧ D ∉ m2 ∧ H2 D = some (.lst accV) ∧ VRs X.K m2 H2 acc accV ∧ acc.length ≤ i ∧
    L = (lcM G g c f (wipeE e (own.map (·.2))) (xs.drop i) h2).bind fun ys h3 => .ok (acc ++ ys) h3) ?_ ?_ ?_ ?_
  · exact ⟨m1, h1, [], [], gD, s1.laid hD, nD, upd_same, by simp only [VRs], Nat.zero_le _, eq0⟩
  · rintro i H2 _ ⟨m2, h2, acc, accV, g2, s2, n2, d2, r2, l2, eq⟩
    exact (hir m2 H2 h2 g2 s2 (gd eq)).1
  · rintro i x H2 H3 hi ⟨m2, h2, acc, accV, g2, s2, n2, d2, r2, l2, eq⟩ hY
    have hG := gd eq
    obtain ⟨iv, h3, g3, s3, r3⟩ := (hir m2 H2 h2 g2 s2 hG).2 i x H3 hi hY
    rw [List.getElem?_eq_getElem hi] at h3
    cases h3
    have hx : xs.drop i = xs[i] :: xs.drop (i + 1) := List.drop_eq_getElem_cons hi
    rw [hx] at eq
    have bad : ∀ {q : R (List IV)}, lcM G g c f (wipeE e (own.map (·.2))) (xs[i] :: xs.drop (i + 1)) h2 = q → q.bind (fun ys h3 => R.ok (acc ++ ys) h3) = .bad → False := fun {q} e1 e2 => by
      rw [e1, e2] at eq
      rw [eq] at p1
      exact p1
    unfold lcM at eq bad
    rw [if_pos hG] at eq bad
    cases hgx : g xs[i] (wipeE e (own.map (·.2))) h2 with
    | none =>
      rw [hgx] at bad
      exact (bad rfl rfl).elim
    | some pr =>
      obtain ⟨e1, h1'⟩ := pr
      rw [hgx] at eq bad
      dsimp only at eq bad
      refine ⟨m2, wipeE e (own.map (·.2)), h2, xs[i], e1, h1', ((er.mono g1).wipe _).mono (g2.trans g3), s3, r3, hgx, fun m4 σ4 H4 g4 er4 s4 el4 => ⟨wipe_else el4 sub, m4, e1, h1', er4, s4, ?_⟩⟩
      cases hcx : c e1 h1' with
      | bad => rw [hcx] at bad; exact (bad rfl rfl).elim
      | exc z hz' => rw [hcx] at bad; exact (bad rfl rfl).elim
      | ok t hc' =>
        rw [hcx] at eq bad
        intro m5 H5 t' g5 s5 rt
        obtain rfl : t = t' := rt
        cases t with
        | false =>
          refine iteF ?_
          have gA : Go X.K m2 H2 m5 H5 := (g3.trans g4).trans g5
          refine ⟨m5, hc', acc, accV, g2.trans gA, s5, gA.out d2 n2, gA.fr _ _ d2 n2, VRs.mono gA _ _ r2, Nat.le_succ_of_le l2, ?_⟩
          rw [eq]
          rfl
        | true =>
          refine iteT ⟨m5, e1, hc', er4.mono g5, s5, ?_⟩
          cases hfx : f e1 hc' with
          | bad => simp only [R.nox, R.bind, if_true] at bad; rw [hfx] at bad; exact (bad rfl rfl).elim
          | exc z hz' => simp only [R.nox, R.bind, if_true] at bad; rw [hfx] at bad; exact (bad rfl rfl).elim
          | ok y hf =>
            intro m6 H6 yv g6 s6 r6
            have gA : Go X.K m2 H2 m6 H6 := ((g3.trans g4).trans g5).trans g6
            have n6 := gA.out d2 n2
            have d6 := gA.fr _ _ d2 n2
            have ra := VRs.mono gA _ _ r2
            have kt : ∀ b ws, SqN X.K H6 b ws → SqN X.K (upd H6 D (.lst (accV ++ [yv]))) b ws := fun b ws t => by
              rcases t with ⟨o', q, d⟩ | q
              · exact .inl ⟨o', by rw [upd_ne (ne_of q d6 (by intro z; cases z))]; exact q, d⟩
              · exact .inr q
            have kz : ∀ b o' u, H6 b = some (.frz o' u) → upd H6 D (.lst (accV ++ [yv])) b = some (.frz o' u) := fun b o' u q => by
              rw [upd_ne (ne_of q d6 (by intro z; cases z))]; exact q
            have kf : ∀ b ws, SqF X.K H6 b ws → SqF X.K (upd H6 D (.lst (accV ++ [yv]))) b ws := fun b ws t => by
              rcases t with ⟨o', q⟩ | q
              · exact .inl ⟨o', kz _ _ _ q⟩
              · exact .inr q
            refine ⟨accV, d6, ?_, m6, hf, acc ++ [y], accV ++ [yv], ?_, ?_, n6, upd_same, ?_, ?_, ?_⟩
            · rw [← ra.length]; omega
            · have gB := g2.trans gA
              refine ⟨gB.pre, gB.new, fun b o q hb => ?_, fun b ws t => kt _ _ (gB.tup _ _ t), fun b o' u q => kz _ _ _ (gB.frz _ _ _ q)⟩
              rw [upd_ne (ne_of_none q hD)]
              exact gB.fr b o q hb
            · refine ⟨s6.len, s6.nd, fun k o q => ?_⟩
              obtain ⟨a, ea, oa⟩ := s6.obj k o q
              refine ⟨a, ea, ?_⟩
              cases o with
              | lst zs =>
                obtain ⟨ws, q1, q2⟩ := oa
                have na : a ≠ D := fun z => n6 (z ▸ List.mem_of_getElem? ea)
                exact ⟨ws, by rw [upd_ne na]; exact q1, VRs.imp (fun _ _ e => e) kt kf _ _ q2⟩
              | gone =>
                obtain ⟨u, ws, q1⟩ := oa
                have na : a ≠ D := fun z => n6 (z ▸ List.mem_of_getElem? ea)
                exact ⟨u, ws, by rw [upd_ne na]; exact q1⟩
            · refine VRs.append (VRs.imp (fun _ _ e => e) kt kf _ _ ra) ?_
              simp only [VRs]
              exact ⟨yv, [], rfl, VR.imp (fun _ _ e => e) kt kf _ _ r6, rfl⟩
            · rw [List.length_append, List.length_singleton]; omega
            · have e9 : L = ((lcM G g c f (wipeE e (own.map (·.2))) (xs.drop (i + 1)) hf).bind fun ys h4 => R.ok (y :: ys) h4).bind fun ys h3 => R.ok (acc ++ ys) h3 := by
                rw [eq]
                show ((f e1 hc').nox.bind _).bind _ = _
                rw [hfx]
                rfl
              rw [e9]
              cases lcM G g c f (wipeE e (own.map (·.2))) (xs.drop (i + 1)) hf with
              | ok ys h4 => exact congrArg (fun l => R.ok l h4) (by simp)
              | exc z h4 => rfl
              | bad => rfl
  · rintro H2 ⟨m2, h2, acc, accV, g2, s2, n2, d2, r2, l2, eq⟩
    have hG := gd eq
    rw [List.drop_length] at eq
    unfold lcM at eq
    rw [if_pos hG] at eq
    have eq2 : L = .ok acc h2 := by
      rw [eq]
      simp [R.bind]
    rw [eq2] at p1
    exact p1 m2 H2 (.ref D) g2 s2 ⟨D, accV, rfl, n2, fun _ => hD, d2, r2⟩
theorem m_lcE {elt tg iter : Expr} {ifs : List Expr} {scope : Scope} {own : List (Str × Nat)} {pos : Pos} {it : ItM} {ts : List Nat} {g : GM} {c : IEnv → IH → R Bool} {f : EM} (hc : X.calm = true) (hN : X.N.Nodup) (hi : PI X tg iter (tIt C X.K W it)) (ok : BlkOk X.N X.env.scope scope own) (sub : ∀ t ∈ ts, t ∈ own.map (·.2))
    (hg : ∀ (s : Shared) (H : Hp) (D : Addr) (cl : List (Str × Addr)) (fp : List Addr), PG (X.blk s H scope (compEnvC scope cl D X.env) fp) tg (tGt X.K ts g)) (ht : ∀ (s : Shared) (H : Hp) (D : Addr) (cl : List (Str × Addr)) (fp : List Addr), PTs (X.blk s H scope (compEnvC scope cl D X.env) fp) ifs (tT C X.K (fun _ _ _ _ => False) c))
    (he : ∀ (s : Shared) (H : Hp) (D : Addr) (cl : List (Str × Addr)) (fp : List Addr), PE (X.blk s H scope (compEnvC scope cl D X.env) fp) elt (tE C X.K (fun _ _ _ _ => False) f)) (hs : ∀ x, foldedSetIterable iter X.env x = pure x) :
    PE X (.ListComp elt [⟨tg, iter, ifs, 0⟩] scope pos) (tL C X.K W (lLc (own.map (·.2)) it g c f)) :=
  pe_weak (pe_lc hc hN hi ok hg ht he hs) (m_lc hc hN hi ok sub hg ht he)
/-- name = [..] -/
theorem ms_setLc {i : Nat} {y : Str} {py : Pos} {elt tg iter : Expr} {ifs : List Expr} {scope : Scope} {own : List (Str × Nat)} {pos spos : Pos} {it : ItM} {ts : List Nat} {g : GM} {c : IEnv → IH → R Bool} {f : EM} (hc : X.calm = true) (hN : X.N.Nodup) (hy : X.N[i]? = some y) (hyl : X.env.scope.names.lookup y = some .local)
    (hsw : swapsWith (.ListComp elt [⟨tg, iter, ifs, 0⟩] scope pos) (some (.Name y py)) spos.line X.env = pure true) (hi : PI X tg iter (tIt C X.K W it)) (ok : BlkOk X.N X.env.scope scope own) (sub : ∀ t ∈ ts, t ∈ own.map (·.2))
    (hg : ∀ (s : Shared) (H : Hp) (D : Addr) (cl : List (Str × Addr)) (fp : List Addr), PG (X.blk s H scope (compEnvC scope cl D X.env) fp) tg (tGt X.K ts g)) (ht : ∀ (s : Shared) (H : Hp) (D : Addr) (cl : List (Str × Addr)) (fp : List Addr), PTs (X.blk s H scope (compEnvC scope cl D X.env) fp) ifs (tT C X.K (fun _ _ _ _ => False) c))
    (he : ∀ (s : Shared) (H : Hp) (D : Addr) (cl : List (Str × Addr)) (fp : List Addr), PE (X.blk s H scope (compEnvC scope cl D X.env) fp) elt (tE C X.K (fun _ _ _ _ => False) f)) (hs : ∀ x, foldedSetIterable iter X.env x = pure x) :
    PS X (.Assign [.Name y py] (.ListComp elt [⟨tg, iter, ifs, 0⟩] scope pos) spos) (tS C X.K W (sAsg (eNew (lLc (own.map (·.2)) it g c f)) (gNm i))) :=
  ps_weak (L2.ps_setLc hc hN hy hyl hsw hi ok hg ht he hs) fun D σ H ⟨m, e, h, er, sr, p⟩ => by
    refine m_lc (W := W) hc hN hi ok sub hg ht he σ H _ ⟨m, e, h, er, sr, new_post ?_⟩
    exact ts_run (rel := rV X.K) er p fun m1 H1 x h1 u g1 s1 er1 r1 p1 => p1 m1 _ H1 Go.refl (er1.set r1) s1
theorem mts_nil : PTs X [] (tT C X.K W tYesM) := ⟨fun pins s σ H Q I ⟨m, e, h, er, sr, p⟩ => pts_nil.run pins s σ H Q I (p.here sr rfl)⟩
end
end MM
/-! M5: defs, calls, the law's end -/
namespace MM
open PySem L2

/-! ### what a def leaves of the small heap -/
mutual
def below (n : Nat) : IV → Bool
  | .ref k => decide (k < n)
  | .tup xs => belows n xs
  | .fz xs => belows n xs
  | _ => true
def belows (n : Nat) : List IV → Bool
  | [] => true
  | x :: xs => below n x && belows n xs
end
def belowO (n : Nat) : IO → Bool
  | .lst xs => belows n xs
  | .gone => true
/-- what was made within and is not handed out goes -/
def finR (n : Nat) (v : IV) (h : IH) : R IV :=
  if (h.take n).all (belowO n) = true then
    if below n v = true then .ok v (h.take n) else match v with
      | .ref k => match h[k]? with
        | some (.lst xs) => if n ≤ k ∧ belows n xs = true then .ok (.ref n) (h.take n ++ [.lst xs]) else .ok v h
        | _ => .ok v h
      | _ => .ok v h
  else .ok v h
/-- a value in which what was made within stands frozen -/
def froz (h : IH) (n : Nat) : Nat → IV → Option IV
  | 0, _ => none
  | f + 1, x => if below n x = true then some x else match x with
    | .ref k => match h[k]? with
      | some (.lst xs) => (optAll (froz h n f) xs).map .fz
      | _ => none
    | .tup xs => (optAll (froz h n f) xs).map .tup
    | .fz xs => (optAll (froz h n f) xs).map .fz
    | x => some x
def fin (n : Nat) (v : IV) (h : IH) : R IV :=
  if (h.take n).all (belowO n) = true then match froz h n 70 v with
    | some w => .ok w (h.take n)
    | none => .bad
  else .bad
def fldB (n : Nat) : Option IV → Bool
  | none => true
  | some v => below n v
def finX (n : Nat) (x : XC) (h : IH) : R IV :=
  if (h.take n).all (belowO n) = true ∧ fldB n x.fld = true then .exc x (h.take n) else .exc x h
abbrev FM := List IV → IH → R IV
/-- a def of np parameters and n names -/
def runG (fn : Nat → IV → IH → R IV) (np n : Nat) (b : SM) : FM := fun vs h => if vs.length = np then match b (vs.map some ++ List.replicate (n - vs.length) none) h with
    | .nx _ h' => fn h.length .non h'
    | .rt v h' => fn h.length v h'
    | .exc x _ h' => finX h.length x h'
    | _ => .bad
  else .bad
/-- a list that is told stands frozen -/
abbrev runF := runG fin
/-- a list that is told may be written -/
abbrev runR := runG finR

section
variable {K : PySem.W.Frag} {m m' : List Addr} {H H' : Hp} {h : IH}
mutual
theorem VR.cut {n : Nat} (e : ∀ k : Nat, k < n → m'[k]? = m[k]?) : ∀ (x : IV) (v : V), VR K m' H x v → below n x = true → VR K m H x v
  | .non, _, r, _ => by simpa only [VR] using r
  | .bl _, _, r, _ => by simpa only [VR] using r
  | .int _, _, r, _ => by simpa only [VR] using r
  | .str _, _, r, _ => by simpa only [VR] using r
  | .fz xs, _, r, b => by
    simp only [VR] at r ⊢
    simp only [below] at b
    obtain ⟨a, vs, e1, s, q⟩ := r
    exact ⟨a, vs, e1, s, VRs.cut e xs vs q b⟩
  | .ref k, _, r, b => by
    simp only [VR] at r ⊢
    simp only [below, decide_eq_true_eq] at b
    obtain ⟨a, e1, e2⟩ := r
    exact ⟨a, by rw [← e k b]; exact e1, e2⟩
  | .tup xs, _, r, b => by
    simp only [VR] at r ⊢
    simp only [below] at b
    obtain ⟨a, vs, e1, s, q⟩ := r
    exact ⟨a, vs, e1, s, VRs.cut e xs vs q b⟩
theorem VRs.cut {n : Nat} (e : ∀ k : Nat, k < n → m'[k]? = m[k]?) : ∀ (xs : List IV) (vs : List V), VRs K m' H xs vs → belows n xs = true → VRs K m H xs vs
  | [], _, r, _ => by simpa only [VRs] using r
  | x :: xs, _, r, b => by
    simp only [VRs] at r ⊢
    simp only [belows, Bool.and_eq_true] at b
    obtain ⟨v, q, e1, r1, r2⟩ := r
    exact ⟨v, q, e1, VR.cut e x v r1 b.1, VRs.cut e xs q r2 b.2⟩
end
theorem pre_at (g : Go K m H m' H') : ∀ k : Nat, k < m.length → m'[k]? = m[k]? := fun k hk => by
  rw [List.getElem?_eq_getElem hk]
  exact g.pre k _ (List.getElem?_eq_getElem hk)
theorem Go.back (g : Go K m H m' H') : Go K m H m H' := ⟨fun _ _ e => e, fun _ e => .inl e, g.fr, g.tup, g.frz⟩
theorem SR.cut (g : Go K m H m' H') (s : SR K m' H' h) (b : (h.take m.length).all (belowO m.length) = true) : SR K m H' (h.take m.length) := by
  have hl : m.length ≤ h.length := by
    rw [← s.len]
    cases hm : m.length with
    | zero => exact Nat.zero_le _
    | succ n =>
      have q := g.pre n _ (List.getElem?_eq_getElem (by omega : n < m.length))
      have := (List.getElem?_eq_some_iff.mp q).1
      omega
  refine ⟨by rw [List.length_take]; omega, ?_, fun k o e => ?_⟩
  · -- a beginning of a row without doubles
    have hm : m = m'.take m.length := by
      refine List.ext_getElem? fun i => ?_
      by_cases hi : i < m.length
      · rw [List.getElem?_take_of_lt hi, pre_at g i hi]
      · rw [List.getElem?_eq_none (by omega), List.getElem?_eq_none (by rw [List.length_take]; omega)]
    rw [hm]
    exact s.nd.sublist (List.take_sublist _ _)
  · have hk : k < m.length := by
      have := (List.getElem?_eq_some_iff.mp e).1
      rw [List.length_take] at this
      omega
    have e' : h[k]? = some o := by rw [← e, List.getElem?_take_of_lt hk]
    obtain ⟨a, e1, q⟩ := s.obj k o e'
    rw [pre_at g k hk] at e1
    refine ⟨a, e1, ?_⟩
    have bo : belowO m.length o = true := List.all_eq_true.mp b o (List.mem_of_getElem? e)
    cases o with
    | lst xs =>
      obtain ⟨vs, q1, q2⟩ := q
      exact ⟨vs, q1, VRs.cut (pre_at g) _ _ q2 bo⟩
    | gone => exact q
end

/-! ### freezing -/
structure Locked (as : List Addr) (H H' : Hp) : Prop where
  out : ∀ a, a ∉ as → H' a = H a
  at_ : ∀ a vs, a ∈ as → H a = some (.lst vs) → ∃ ob, H' a = some (.frz ob (.lst vs))
  no : ∀ a, (∀ vs, H a ≠ some (.lst vs)) → H' a = H a
theorem Locked.nil {H H' : Hp} (L : Locked [] H H') : H' = H := funext fun a => L.out a (by simp)
theorem lock_all {X : Cx} {pins : List (Addr × Obj)} {σ : St} {s : Shared} : ∀ (as : List Addr) {H : Hp}, Inv X pins σ H s → ∃ H', Inv X pins σ H' s ∧ Locked as H H'
  | [], H, I => ⟨H, I, ⟨fun _ _ => rfl, fun _ _ h => absurd h List.not_mem_nil, fun _ _ => rfl⟩⟩
  | a :: as, H, I => by
    by_cases hl : ∃ vs, H a = some (.lst vs)
    · obtain ⟨vs, hv⟩ := hl
      obtain ⟨ob, I1⟩ := I.lock hv trivial
      obtain ⟨H', I2, L⟩ := lock_all as I1
      refine ⟨H', I2, fun b hb => ?_, fun b ws hb e => ?_, fun b hn => ?_⟩
      · rw [L.out b (fun z => hb (List.mem_cons_of_mem _ z)), upd_ne (fun z => hb (by simp [z]))]
      · by_cases hba : b = a
        · subst hba
          rw [hv] at e; cases e
          exact ⟨ob, by rw [L.no b (by rw [upd_same]; intro _ z; cases z), upd_same]⟩
        · rcases List.mem_cons.mp hb with z | z
          · exact absurd z hba
          · exact L.at_ b ws z (by rw [upd_ne hba]; exact e)
      · have hba : b ≠ a := fun z => hn vs (by rw [z]; exact hv)
        rw [L.no b (by rw [upd_ne hba]; exact hn), upd_ne hba]
    · obtain ⟨H', I2, L⟩ := lock_all as I
      refine ⟨H', I2, fun b hb => L.out b fun z => hb (List.mem_cons_of_mem _ z), fun b ws hb e => ?_, L.no⟩
      rcases List.mem_cons.mp hb with z | z
      · exact absurd ⟨ws, by rw [← z]; exact e⟩ hl
      · exact L.at_ b ws z e
section
variable {K : PySem.W.Frag} {m m' : List Addr} {H H' H2 : Hp} {h : IH} {as : List Addr}
theorem Locked.frz (L : Locked as H H2) {a : Addr} {o : Obj} {u : HO} (e : H a = some (.frz o u)) : H2 a = some (.frz o u) := by
  rw [L.no a (by rw [e]; intro _ z; cases z)]; exact e
theorem Locked.tup (L : Locked as H H2) (a : Addr) (xs : List V) (t : SqN K H a xs) : SqN K H2 a xs := by
  rcases t with ⟨o, q, d⟩ | q
  · exact .inl ⟨o, L.frz q, d⟩
  · exact .inr q
theorem Locked.scr (L : Locked as H H2) (a : Addr) (xs : List V) (t : SqF K H a xs) : SqF K H2 a xs := by
  rcases t with ⟨o, q⟩ | q
  · exact .inl ⟨o, L.frz q⟩
  · exact .inr q
theorem Locked.vr (L : Locked as H H2) (x : IV) (v : V) (r : VR K m H x v) : VR K m H2 x v := VR.imp (fun _ _ e => e) L.tup L.scr x v r
theorem Locked.vrs (L : Locked as H H2) (x : List IV) (v : List V) (r : VRs K m H x v) : VRs K m H2 x v := VRs.imp (fun _ _ e => e) L.tup L.scr x v r
theorem Locked.go (L : Locked as H' H2) (g : Go K m H m' H') (hs : ∀ a ∈ as, a ∉ m → H a = none) : Go K m H m' H2 where
  pre := g.pre
  new := g.new
  fr := fun a o e n => by
    rw [L.out a fun z => by have := hs a z n; rw [e] at this; cases this]
    exact g.fr a o e n
  tup := fun a xs t => L.tup a xs (g.tup a xs t)
  frz := fun a o u e => L.frz (g.frz a o u e)
theorem Locked.sr (L : Locked as H H2) (s : SR K m H h) (hs : ∀ a ∈ as, a ∉ m) : SR K m H2 h :=
  ⟨s.len, s.nd, fun k o e => by
    obtain ⟨a, e1, q⟩ := s.obj k o e
    have na : a ∉ as := fun z => hs a z (List.mem_of_getElem? e1)
    refine ⟨a, e1, ?_⟩
    cases o with
    | lst xs =>
      obtain ⟨vs, q1, q2⟩ := q
      exact ⟨vs, by rw [L.out a na]; exact q1, L.vrs _ _ q2⟩
    | gone =>
      obtain ⟨u, ws, q1⟩ := q
      exact ⟨u, ws, by rw [L.out a na]; exact q1⟩⟩
/-- what froz tells stands in the locked heap -/
theorem froz_vr {n : Nat} (s : SR K m' H' h) (pre : ∀ k : Nat, k < n → m'[k]? = m[k]?) (L : Locked (m'.drop n) H' H2) : ∀ (f : Nat) (x w : IV) (v : V), froz h n f x = some w → VR K m' H' x v → VR K m H2 w v
  | 0, _, _, _, e, _ => by cases e
  | f + 1, x, w, v, e, r => by
    have all : ∀ (xs ws : List IV) (vs : List V), optAll (froz h n f) xs = some ws → VRs K m' H' xs vs → VRs K m H2 ws vs := by
      intro xs
      induction xs with
      | nil => intro ws vs e r; cases e; simpa only [VRs] using r
      | cons y ys ih =>
        intro ws vs e r
        simp only [VRs] at r
        obtain ⟨u, q, rfl, r1, r2⟩ := r
        obtain ⟨d1, d2, e1, e2, rfl⟩ := optAll_cons e
        simp only [VRs]
        exact ⟨u, q, rfl, froz_vr s pre L f y d1 u e1 r1, ih _ _ e2 r2⟩
    unfold froz at e
    split at e
    · rename_i hb
      cases e
      exact L.vr _ _ (VR.cut pre x v r hb)
    · rename_i hb
      cases x with
      | non => cases e; simpa only [VR] using r
      | bl b => cases e; simpa only [VR] using r
      | int b => cases e; simpa only [VR] using r
      | str b => cases e; simpa only [VR] using r
      | tup xs =>
        simp only [VR] at r
        obtain ⟨a, vs, rfl, t, rr⟩ := r
        dsimp only at e
        cases hx : optAll (froz h n f) xs with
        | none => rw [hx] at e; cases e
        | some ws =>
          rw [hx] at e; cases e
          simp only [VR]
          exact ⟨a, vs, rfl, L.tup _ _ t, all _ _ _ hx rr⟩
      | fz xs =>
        simp only [VR] at r
        obtain ⟨a, vs, rfl, t, rr⟩ := r
        dsimp only at e
        cases hx : optAll (froz h n f) xs with
        | none => rw [hx] at e; cases e
        | some ws =>
          rw [hx] at e; cases e
          simp only [VR]
          exact ⟨a, vs, rfl, L.scr _ _ t, all _ _ _ hx rr⟩
      | ref k =>
        simp only [VR] at r
        obtain ⟨a, e1, rfl⟩ := r
        dsimp only at e
        split at e
        · rename_i xs hk
          obtain ⟨a', vs, e2, q, rr⟩ := s.get hk
          rw [e1] at e2; cases e2
          cases hx : optAll (froz h n f) xs with
          | none => rw [hx] at e; cases e
          | some ws =>
            rw [hx] at e; cases e
            have hk2 : n ≤ k := by
              simp only [below, decide_eq_true_eq] at hb
              omega
            have ma : a ∈ m'.drop n := List.mem_of_getElem? (i := k - n) (by rw [List.getElem?_drop, show n + (k - n) = k by omega]; exact e1)
            obtain ⟨ob, q3⟩ := L.at_ a vs ma q
            simp only [VR]
            exact ⟨a, vs, rfl, .inl ⟨ob, q3⟩, all _ _ _ hx rr⟩
        · cases e
end

section
variable {C : Cc} {K : PySem.W.Frag} {W : WX} {σ : St} {m m' : List Addr} {H H' : Hp} {h : IH} {Q : VK}
theorem finR_run {v : IV} {u : V} (g : Go K m H m' H') (s : SR K m' H' h) (r : VR K m' H' v u) (p : Post C K W σ m H (rV K) Q (finR m.length v h)) : Q u H' := by
  have plain : Post C K W σ m H (rV K) Q (.ok v h) → Q u H' := fun p => p m' H' u g s r
  unfold finR at p
  split at p
  · rename_i hb
    split at p
    · rename_i hv
      exact p m H' u g.back (s.cut g hb) (VR.cut (pre_at g) _ _ r hv)
    · split at p
      · rename_i k hk0
        split at p
        · rename_i xs hk
          split at p
          · rename_i hx
            obtain ⟨a, vs, rfl, e1, q, rr⟩ := lst_at s r hk
            have na : a ∉ m := fun z => by
              obtain ⟨j, ej⟩ := List.mem_iff_getElem?.mp z
              have hj := (List.getElem?_eq_some_iff.mp ej).1
              have ej' := g.pre j a ej
              have := (List.getElem_inj s.nd (h₀ := (List.getElem?_eq_some_iff.mp ej').1) (h₁ := (List.getElem?_eq_some_iff.mp e1).1)).mp (by
                rw [(List.getElem?_eq_some_iff.mp ej').2, (List.getElem?_eq_some_iff.mp e1).2])
              omega
            have h0 : H a = none := by
              rcases g.new a (List.mem_of_getElem? e1) with z | z
              · exact absurd z na
              · exact z
            have s2 := s.cut g hb
            refine p (m ++ [a]) H' (.ref a) (Go.take q na g.back h0) (s2.take q na (VRs.cut (pre_at g) _ _ rr hx.2)) ?_
            show VR K (m ++ [a]) H' (.ref m.length) (.ref a)
            simp only [VR]
            exact ⟨a, by simp, rfl⟩
          · exact plain p
        · exact plain p
      · exact plain p
  · exact plain p
theorem drop_new (g : Go K m H m' H') (s : SR K m' H' h) : ∀ a ∈ m'.drop m.length, a ∉ m ∧ H a = none := fun a ha => by
  have n : a ∉ m := fun z => by
    obtain ⟨j, ej⟩ := List.mem_iff_getElem?.mp z
    have hj := (List.getElem?_eq_some_iff.mp ej).1
    have ej' := g.pre j a ej
    obtain ⟨i, ei⟩ := List.mem_iff_getElem?.mp ha
    rw [List.getElem?_drop] at ei
    have := (List.getElem_inj s.nd (h₀ := (List.getElem?_eq_some_iff.mp ej').1) (h₁ := (List.getElem?_eq_some_iff.mp ei).1)).mp (by
      rw [(List.getElem?_eq_some_iff.mp ej').2, (List.getElem?_eq_some_iff.mp ei).2])
    omega
  exact ⟨n, (g.new a (List.mem_of_mem_drop ha)).resolve_left n⟩
theorem gc_sr (g : Go K m H m' H') (s : SR K m' H' h) {H2 : Hp} (L : Locked (m'.drop m.length) H' H2) (hb : (h.take m.length).all (belowO m.length) = true) : Go K m H m H2 ∧ SR K m H2 (h.take m.length) :=
  ⟨L.go g.back fun a ha _ => (drop_new g s a ha).2, L.sr (s.cut g hb) fun a ha => (drop_new g s a ha).1⟩
theorem fin_run {v : IV} {u : V} (g : Go K m H m' H') (s : SR K m' H' h) (r : VR K m' H' v u) (p : Post C K W σ m H (rV K) Q (fin m.length v h)) {H2 : Hp} (L : Locked (m'.drop m.length) H' H2) : Q u H2 := by
  unfold fin at p
  split at p
  · rename_i hb
    split at p
    · rename_i w hw
      have q := gc_sr g s L hb
      exact p m H2 u q.1 q.2 (froz_vr s (pre_at g) L 70 v w u hw r)
    · exact p.elim
  · exact p.elim
theorem finX_run {x : XC} {cls : Value} {d : Option Addr} (g : Go K m H m' H') (s : SR K m' H' h) (r : XRel C K m' H' x cls d) (p : Post C K W σ m H (rV K) Q (finX m.length x h)) : W cls d σ H' := by
  unfold finX at p
  split at p
  · rename_i hb
    refine p m H' cls d g.back (s.cut g hb.1) ?_
    obtain ⟨r1, r2⟩ := r
    refine ⟨r1, ?_⟩
    have hb2 := hb.2
    clear hb p
    revert r2 hb2
    cases x.fld with
    | none => exact fun r2 _ => r2
    | some v =>
      intro r2 hb2
      obtain ⟨dd, u, e, n, q, rv⟩ := r2
      refine ⟨dd, u, e, fun z => ?_, q, VR.cut (pre_at g) _ _ rv hb2⟩
      obtain ⟨j, ej⟩ := List.mem_iff_getElem?.mp z
      exact n (List.mem_of_getElem? (g.pre j dd ej))
  · exact p m' H' cls d g s r
end

/-! ### a def -/
structure FnM (P : Program) (w : World) (K : PySem.W.Frag) (mg : Str → Option Value) (base : Heap) (C : Cc) (k : Nat) (f : Addr) (fd : FuncData) (ps : List Str) (F : FM) : Prop where
  len : ∀ xs h, F xs h ≠ .bad → xs.length = ps.length
  run : ∀ (A : Around) (outer : List Env) (s : Shared) (H : Hp) (args : Args) (us : List Value) (vs : List V) (m : List Addr) (h : IH) (xs : List IV) (Q : VK) (E : XK), Room k A → A.guards = some [] → Env0 P w K mg base A outer s H →
    BindsTo s fd args (ps.zip us) → Vals vs us → SR K m H h → VRs K m H xs vs → Post C K (fun cls d _ H' => E cls d H') [] m H (rV K) Q (F xs h) → codeAny (model P w) A (.call (.ref f) args) (CR (L2.CX P w) outer P w H s Q E) s
theorem FnM.mono {P : Program} {w : World} {K : PySem.W.Frag} {mg : Str → Option Value} {base : Heap} {C : Cc} {j k : Nat} {f : Addr} {fd : FuncData} {ps : List Str} {F : FM} (G : FnM P w K mg base C j f fd ps F) (h : j ≤ k) : FnM P w K mg base C k f fd ps F :=
  ⟨G.len, fun A outer s H args us vs m hh xs Q E hr => G.run A outer s H args us vs m hh xs Q E (hr.mono h)⟩
theorem runG_len {fn : Nat → IV → IH → R IV} {np n : Nat} {b : SM} {xs : List IV} {h : IH} (q : runG fn np n b xs h ≠ .bad) : xs.length = np := by
  unfold runG at q
  split at q
  · assumption
  · exact absurd rfl q
theorem start_er {K : PySem.W.Frag} {m : List Addr} {H : Hp} {N : List Str} {xs : List IV} {vs : List V} (r : VRs K m H xs vs) : ER K m H (xs.map some ++ List.replicate (N.length - xs.length) none) (L2.start N vs) := by
  unfold L2.start
  refine ⟨by simp [r.length], fun i x e => ?_⟩
  by_cases hi : i < xs.length
  · rw [List.getElem?_append_left (by simpa using hi), List.getElem?_map, List.getElem?_eq_getElem hi] at e
    cases e
    obtain ⟨v, h1, h2⟩ := r.get (List.getElem?_eq_getElem hi)
    refine ⟨v, ?_, h2⟩
    rw [List.getElem?_append_left (by rw [List.length_map, ← r.length]; exact hi), List.getElem?_map, h1]
    rfl
  · rw [List.getElem?_append_right (by simpa using hi), List.getElem?_replicate] at e
    split at e <;> cases e
def FinOk (fn : Nat → IV → IH → R IV) : Prop := ∀ {C : Cc} {K : PySem.W.Frag} {W : WX} {σ : St} {m m' : List Addr} {H H' : Hp} {h : IH} {Q : VK} {v : IV} {u : V}, Go K m H m' H' → SR K m' H' h → VR K m' H' v u → Post C K W σ m H (rV K) Q (fn m.length v h) → ∃ as, ∀ H2, Locked as H' H2 → Q u H2
theorem finOk : FinOk fin := fun g s r p => ⟨_, fun _ L => fin_run g s r p L⟩
theorem finROk : FinOk finR := fun g s r p => ⟨[], fun _ L => by rw [L.nil]; exact finR_run g s r p⟩
theorem fn_mkG {fn : Nat → IV → IH → R IV} (fo : FinOk fn) {P : Program} {w : World} {K : PySem.W.Frag} {mg : Str → Option Value} {base : Heap} {C : Cc} {k np : Nat} {x qual : Str} {st : Stmt} {f : Addr} {fd : FuncData} {N ps : List Str} {b : SM} (F : Fun K x qual st f fd) (S : FnScope N ps (defScope st)) (hnp : ps.length = np)
    (hbody : ∀ (cdv : Value) (A : Around) (outer : List Env) (s : Shared) (H : Hp) (E : XK), Room k (A.deeper (PyProof.Rows.envOfC qual (defScope st) s.heap.objs.size f cdv)) → (A.deeper (PyProof.Rows.envOfC qual (defScope st) s.heap.objs.size f cdv)).guards = some [] →
      PSs (cxOf (L2.CX P w) P w K mg base N qual (defScope st) f cdv A outer s H E) (defBody st) (tS C K (fun cls d _ H' => E cls d H') b)) :
    FnM P w K mg base C (k + 1) f fd ps (runG fn np N.length b) := by
  obtain ⟨oc, od, kV, doc, pm, an, cdv, ct, osl, rfl, lk, hcd⟩ := F.ex
  refine ⟨fun xs h q => (runG_len q).trans hnp.symm, fun A outer s H args us vs m h xs Q E hr hgd e0 hb r sr rr p => ?_⟩
  have hne : runG fn np N.length b xs h ≠ .bad := fun z => by rw [z] at p; exact p
  have hxl := runG_len hne
  have hvl : vs.length = ps.length := by rw [← rr.length, hxl, hnp]
  have KX : K.In s.heap := e0.mod.kin.keeps fun b o e => (e0.bs b o e).1
  have lim : s.heap.NoLimit := e0.mod.nolimit.keeps fun b o e => (e0.bs b o e).1
  have hkind : ∀ y ∈ ps.zip us, (defScope st).names.lookup y.1 = some .local ∨ ((defScope st).names.lookup y.1 = some .cell ∧ ((cellsFrom (s.heap.objs.size + 1) (defScope st).names []).lookup y.1).isSome = true) := by
    rintro ⟨n, v⟩ hy
    rcases S.par n (List.of_mem_zip hy).1 with q | q
    · exact .inl q
    · exact .inr ⟨q, PySem.W.cellsFrom_some _ _ _ (.inl q)⟩
  refine codeAny_call_function hr.depth (KX _ _ lk) rfl S.co S.gen rfl (PySem.W.codeRec_of KX hcd) (hb _ _ _ _ ?_)
  refine wpAny_newFunctionEnv_cells S.kind hkind fun env he s1 xx => ?_
  subst he
  refine ⟨lim.keeps xx.toInCall.keep, codeAny_func ?_⟩
  have body := hbody cdv A outer s H E (hr.deeper _) hgd
  have I : Inv (cxOf (L2.CX P w) P w K mg base N qual (defScope st) f cdv A outer s H E) [] (L2.start N vs) H s1 := inv_start S hr.hd e0 hvl r xx
  have her := start_er (N := N) rr
  have t : tS C K (fun cls d _ H' => E cls d H') b { nx := fun _ H' => ∃ as, ∀ H2, Locked as H' H2 → Q .non H2, rt := fun u H' => ∃ as, ∀ H2, Locked as H' H2 → Q u H2 } (L2.start N vs) H := by
    refine ⟨m, _, h, her, sr, ?_⟩
    unfold runG at p
    rw [if_pos hxl] at p
    cases hq : b (xs.map some ++ List.replicate (N.length - xs.length) none) h with
    | nx e1 h1 => rw [hq] at p; exact fun m' σ' H' g er s' => fo (v := .non) (u := .non) g s' (by simp only [VR]) (by rw [sr.len]; exact p)
    | rt v h1 => rw [hq] at p; exact fun m' u H' g rv s' => fo g s' rv (by rw [sr.len]; exact p)
    | exc z e1 h1 =>
      rw [hq] at p
      exact fun m' σ' H' cls d g er s' xr => finX_run (W := fun cls d _ H' => E cls d H') (σ := []) g s' xr (by rw [sr.len]; exact p)
    | bk e1 h1 => rw [hq] at p; exact p.elim
    | ct e1 h1 => rw [hq] at p; exact p.elim
    | bad => rw [hq] at p; exact p.elim
  refine wpAny_mono (body.run [] s1 (L2.start N vs) H _ I t) (fun fl s' hs => ?_) fun e s' hs => hs
  have done : ∀ {σ' : St} {H' : Hp} {v : V} {u : Value}, Inv (cxOf (L2.CX P w) P w K mg base N qual (defScope st) f cdv A outer s H E) [] σ' H' s' → RelV v u → (∃ as, ∀ H2, Locked as H' H2 → Q v H2) → CE outer P w H s Q u s' :=
    fun {σ' H' v u} J rv ⟨as, q⟩ => let ⟨H2, J2, L⟩ := lock_all as J; ⟨v, H2, J2.os, J2.bare, J2.base, J2.hok, rv, q H2 L⟩
  cases fl with
  | ret u =>
    obtain ⟨v, σ', H', J, rv, q⟩ := hs
    exact done J rv q
  | next =>
    obtain ⟨σ', H', J, q⟩ := hs
    exact done (v := .non) (u := Value.none) J rfl q
  | brk =>
    obtain ⟨_, _, _, q⟩ := hs
    exact q.elim
  | cont =>
    obtain ⟨_, _, _, q⟩ := hs
    exact q.elim

/-! ### calls -/
section
variable {X : Cx} {C : Cc} {W : WX}
theorem post_w {α β : Type} {K : PySem.W.Frag} {rel : Rel α β} {σ σ' : St} {m : List Addr} {H : Hp} {W W' : WX} {Q : β → Hp → Prop} {r : R α} (hW : ∀ c d H, W c d σ H → W' c d σ' H) (p : Post C K W σ m H rel Q r) : Post C K W' σ' m H rel Q r := by
  cases r with
  | ok a h' => exact p
  | exc x h' => exact fun m1 H1 c d g s q => hW _ _ _ (p m1 H1 c d g s q)
  | bad => exact p
theorem run_m {k : Nat} {f : Addr} {fd : FuncData} {ps : List Str} {F : FM} {pins : List (Addr × Obj)} {σ : St} {H : Hp} {s : Shared} {Q : VK} {us : List Value} {vs : List V} {kw : List (Str × Value)} {m : List Addr} {h : IH} {xs : List IV} {us' : List Value}
    (G : FnM X.prog X.w X.K X.mg X.base C k f fd ps F) (hr : Room k X.A) (hgd : X.A.guards = some []) (tk : Takes X W) (I : Inv X pins σ H s) (hb : BindsTo s fd ⟨us', kw⟩ (ps.zip us)) (r : Vals vs us) (sr : SR X.K m H h) (rr : VRs X.K m H xs vs)
    (p : Post C X.K W σ m H (rV X.K) Q (F xs h)) : wpAny (model X.prog X.w) X.A (call (.ref f) us' kw) (EP X pins σ Q) X.xe s := by
  refine wpAny_call (codeAny_mono (G.run X.A X.stack s H ⟨us', kw⟩ us vs m h xs Q (fun cls d H' => W cls d σ H') hr hgd I.env0 hb r sr rr (post_w (W := W) (σ := σ) (fun _ _ _ z => z) p)) fun r' s' hq => ?_)
  cases r' with
  | error e => exact tk e s' (XE.of_call I (fun _ _ _ z => z) hq)
  | ok fl =>
    cases fl with
    | ret u => exact I.after hq
    | next => exact False.elim hq
    | brk => exact False.elim hq
    | cont => exact False.elim hq
theorem m_call {k : Nat} {f : Addr} {fd : FuncData} {ps : List Str} {F : FM} {x : Str} {e : Expr} {es : List Expr} {p pos : Pos} {g : IEnv → IH → R (List IV)} (G : FnM X.prog X.w X.K X.mg X.base C k f fd ps F) (hr : Room k X.A) (hgd : X.A.guards = some []) (tk : Takes X W)
    (hg : Gl X x) (hm : X.mg x = some (.ref f)) (hk : PySem.W.keepIn X.K (.ref f) = true) (hb : Binds X.K fd ps []) (ha : PA X (e :: es) (tA C X.K W g)) (hdb : (x == ("__debug__" : Str)) = false)
    (he : starEach (e :: es) X.env = (false, eval e X.env) :: starEach es X.env) (hpl : (backTo pos (starEach es X.env)).any (·.1) = false) : PE X (.Call (.Name x p) (e :: es) [] pos) (tE C X.K W (eC F g)) := by
  refine ⟨fun pins s σ H Q I ⟨m, env, h, er, sr, pp⟩ => ?_⟩
  refine wpAny_Call_Name_kw (ld_glob I hg hm ?_ hdb)
  refine PySem.W.callWith_K (h₀ := X.base) I.ok.mod.kin hk (thn (ha.run pos pins s σ H (fun vs H1 => ∃ m1 h1 xs, SR X.K m1 H1 h1 ∧ VRs X.K m1 H1 xs vs ∧ Post C X.K W σ m1 H1 (rV X.K) Q (F xs h1)) I ⟨m, env, h, er, sr, ?_⟩) fun us s1 ⟨vs, H1, I1, r, m1, h1, xs, sr1, rr, q⟩ => ⟨I1.kIn, ?_⟩) he hpl
  · exact tg_run pp fun m1 H1 xs h1 vs g1 s1 r1 p1 => ⟨m1, h1, xs, s1, r1, p1⟩
  · have hne : F xs h1 ≠ .bad := fun z => by rw [z] at q; exact q
    have hl : us.length = ps.length := by rw [← r.length, ← rr.length]; exact G.len _ _ hne
    exact run_m G hr hgd tk I1 (by have := hb s1 us I1.kIn (by simpa using hl); simpa using this) r sr1 rr q
theorem m_call0 {k : Nat} {f : Addr} {fd : FuncData} {ps : List Str} {F : FM} {x : Str} {p pos : Pos} (G : FnM X.prog X.w X.K X.mg X.base C k f fd ps F) (hr : Room k X.A) (hgd : X.A.guards = some []) (tk : Takes X W)
    (hg : Gl X x) (hm : X.mg x = some (.ref f)) (hk : PySem.W.keepIn X.K (.ref f) = true) (hb : Binds X.K fd ps []) (hdb : (x == ("__debug__" : Str)) = false) : PE X (.Call (.Name x p) [] [] pos) (tE C X.K W (eC F aNil)) := by
  refine ⟨fun pins s σ H Q I ⟨m, env, h, er, sr, pp⟩ => ?_⟩
  refine wpAny_Call_Name_kw (ld_glob I hg hm ?_ hdb)
  have q : Post C X.K W σ m H (rV X.K) Q (F [] h) := pp
  have hne : F [] h ≠ .bad := fun z => by rw [z] at q; exact q
  have hl := G.len _ _ hne
  exact PySem.W.callWith_K0 I.kIn hk (run_m (us := []) (us' := []) (vs := []) (xs := []) G hr hgd tk I (by have := hb s [] I.kIn (by simpa using hl); simpa using this) .nil sr (by simp only [VRs]) q)

/-- by places: the positional values, then the keywords' -/
def pick {α : Type} (ix : List Nat) (l : List α) : List α := ix.filterMap (l[·]?)
theorem pick_cons {α : Type} (i : Nat) (ix : List Nat) (l : List α) : pick (i :: ix) l = (match l[i]? with | some a => a :: pick ix l | none => pick ix l) := by
  unfold pick
  rw [List.filterMap_cons]
  cases l[i]? <;> rfl
theorem pick_vr {K : PySem.W.Frag} {m : List Addr} {H : Hp} {xs : List IV} {vs : List V} (r : VRs K m H xs vs) : ∀ ix : List Nat, VRs K m H (pick ix xs) (pick ix vs)
  | [] => by simp [pick, VRs]
  | i :: ix => by
    rw [pick_cons, pick_cons]
    by_cases hi : i < xs.length
    · obtain ⟨v, h1, h2⟩ := r.get (List.getElem?_eq_getElem hi)
      rw [h1, List.getElem?_eq_getElem hi]
      simp only [VRs]
      exact ⟨v, _, rfl, h2, pick_vr r ix⟩
    · rw [List.getElem?_eq_none (by omega), List.getElem?_eq_none (by rw [← r.length]; omega)]
      exact pick_vr r ix
theorem pick_vals {vs : List V} {us : List Value} (r : Vals vs us) : ∀ ix : List Nat, Vals (pick ix vs) (pick ix us)
  | [] => .nil
  | i :: ix => by
    rw [pick_cons, pick_cons]
    cases e : vs[i]? with
    | some v =>
      obtain ⟨u, h1, h2⟩ := r.get e
      rw [h1]
      exact .cons h2 (pick_vals r ix)
    | none =>
      rw [r.none_of e]
      exact pick_vals r ix
def eCK (F : FM) (ix : List Nat) (f g : IEnv → IH → R (List IV)) : EM := fun env h => (f env h).bind fun xs h1 => (g env h1).bind fun ys h2 => F (pick ix (xs ++ ys)) h2
def KwOk (K : PySem.W.Frag) (fd : FuncData) (ps ks : List Str) (ix : List Nat) (nu : Nat) : Prop :=
  ∀ (s : Shared) (us ws : List Value), us.length = nu → ws.length = ks.length → BindsTo s fd ⟨us, ks.zip ws⟩ (ps.zip (pick ix (us ++ ws)))
theorem m_kNil : PK X [] (tA C X.K W aNil) := ⟨fun pos pins s σ H Q I ⟨m, e, h, er, sr, p⟩ => pk_nil.run pos pins s σ H Q I (p.here sr (by simp only [rVs, VRs]))⟩
theorem m_kCons {nm : Option Str} {e : Expr} {kpos : Pos} {kws : List Keyword} {f : EM} {g : IEnv → IH → R (List IV)} (ha : PE X e (tE C X.K W f)) (hr : PK X kws (tA C X.K W g)) : PK X (⟨nm, e, kpos⟩ :: kws) (tA C X.K W (aCons f g)) :=
  ⟨fun pos pins s σ H Q I ⟨m, env, h, er, sr, p⟩ => (pk_cons ha hr).run pos pins s σ H Q I ⟨m, env, h, er, sr, tg_run p fun m1 H1 x h1 u1 g1 s1 r1 p1 => ⟨m1, env, h1, er.mono g1, s1, tg_run p1 fun m2 H2 a h2 u2 g2 s2 r2 p2 =>
    p2.here s2 (by simp only [rVs, VRs]; exact ⟨u1, u2, rfl, VR.mono g2 _ _ r1, r2⟩)⟩⟩⟩
theorem m_callK0 {k : Nat} {f : Addr} {fd : FuncData} {ps ks : List Str} {ix : List Nat} {F : FM} {x : Str} {kws : List Keyword} {p pos : Pos} {g : IEnv → IH → R (List IV)} (G : FnM X.prog X.w X.K X.mg X.base C k f fd ps F) (hr : Room k X.A) (hgd : X.A.guards = some []) (tk : Takes X W)
    (hg : Gl X x) (hm : X.mg x = some (.ref f)) (hk : PySem.W.keepIn X.K (.ref f) = true) (hb : KwOk X.K fd ps ks ix 0) (ha : PK X kws (tA C X.K W g)) (hnk : kws.length = ks.length) (hdb : (x == ("__debug__" : Str)) = false)
    (hall : (backToKw pos (keywordEach kws X.env)).all (·.1.isSome) = true) (hks : (backToKw pos (keywordEach kws X.env)).filterMap (·.1) = ks) (hgl : ∀ env h xs h1, g env h = .ok xs h1 → xs.length = ks.length)
    (hpl : ((backTo pos (starEach [] X.env)).any (·.1) || (backToKw pos (keywordEach kws X.env)).any (·.1.isNone)) = false) :
    PE X (.Call (.Name x p) [] kws pos) (tE C X.K W (eCK F ix aNil g)) := by
  refine ⟨fun pins s σ H Q I ⟨m, env, h, er, sr, pp⟩ => ?_⟩
  refine wpAny_Call_Name_kw (ld_glob I hg hm ?_ hdb)
  have pp' : Post C X.K W σ m H (rV X.K) Q ((g env h).bind fun ys h2 => F (pick ix ys) h2) := pp
  refine PySem.W.callWith_KW0 (h₀ := X.base) I.ok.mod.kin hk hall (thn (ha.run pos pins s σ H (fun vs H1 => ∃ m1 h1 xs, SR X.K m1 H1 h1 ∧ VRs X.K m1 H1 xs vs ∧ xs.length = ks.length ∧ Post C X.K W σ m1 H1 (rV X.K) Q (F (pick ix xs) h1)) I ⟨m, env, h, er, sr, ?_⟩) fun us s1 ⟨vs, H1, I1, r, m1, h1, xs, sr1, rr, hl, q⟩ => ⟨I1.kIn, ?_⟩) hpl
  · cases hgx : g env h with
    | ok xs h1 =>
      rw [hgx] at pp'
      exact fun m1 H1 vs g1 s1 r1 => ⟨m1, h1, xs, s1, r1, hgl _ _ _ _ hgx, Post.mono g1 pp'⟩
    | exc z h1 => rw [hgx] at pp'; exact pp'
    | bad => rw [hgx] at pp'; exact pp'
  · rw [hks]
    have hl2 : us.length = ks.length := by rw [← r.length, ← rr.length]; exact hl
    exact run_m (us := pick ix us) G hr hgd tk I1 (hb s1 [] us rfl hl2) (pick_vals r ix) sr1 (pick_vr rr ix) q
theorem m_callK {k nu : Nat} {f : Addr} {fd : FuncData} {ps ks : List Str} {ix : List Nat} {F : FM} {x : Str} {e : Expr} {es : List Expr} {kws : List Keyword} {p pos : Pos} {g1' g : IEnv → IH → R (List IV)} (G : FnM X.prog X.w X.K X.mg X.base C k f fd ps F) (hr : Room k X.A) (hgd : X.A.guards = some []) (tk : Takes X W)
    (hg : Gl X x) (hm : X.mg x = some (.ref f)) (hk : PySem.W.keepIn X.K (.ref f) = true) (hb : KwOk X.K fd ps ks ix nu) (ha1 : PA X (e :: es) (tA C X.K W g1')) (ha : PK X kws (tA C X.K W g)) (hdb : (x == ("__debug__" : Str)) = false)
    (hall : (backToKw pos (keywordEach kws X.env)).all (·.1.isSome) = true) (hks : (backToKw pos (keywordEach kws X.env)).filterMap (·.1) = ks) (hgl : ∀ env h xs h1, g env h = .ok xs h1 → xs.length = ks.length) (hgl1 : ∀ env h xs h1, g1' env h = .ok xs h1 → xs.length = nu)
    (he : starEach (e :: es) X.env = (false, eval e X.env) :: starEach es X.env) (hpl : ((backTo pos (starEach (e :: es) X.env)).any (·.1) || (backToKw pos (keywordEach kws X.env)).any (·.1.isNone)) = false) :
    PE X (.Call (.Name x p) (e :: es) kws pos) (tE C X.K W (eCK F ix g1' g)) := by
  refine ⟨fun pins s σ H Q I ⟨m, env, h, er, sr, pp⟩ => ?_⟩
  refine wpAny_Call_Name_kw (ld_glob I hg hm ?_ hdb)
  refine PySem.W.callWith_KW (h₀ := X.base) I.ok.mod.kin hk hall (thn (ha1.run pos pins s σ H (fun vs H1 => ∃ m1 h1 xs, Go X.K m H m1 H1 ∧ SR X.K m1 H1 h1 ∧ VRs X.K m1 H1 xs vs ∧ xs.length = nu ∧ Post C X.K W σ m1 H1 (rV X.K) Q ((g env h1).bind fun ys h2 => F (pick ix (xs ++ ys)) h2)) I ⟨m, env, h, er, sr, ?_⟩) fun us s1 ⟨vs, H1, I1, r, m1, h1, xs, go1, sr1, rr, hl, q⟩ => ?_) hpl he
  · unfold eCK at pp
    cases hgx : g1' env h with
    | ok xs h1 =>
      rw [hgx] at pp
      exact fun m1 H1 vs g1 s1 r1 => ⟨m1, h1, xs, g1, s1, r1, hgl1 _ _ _ _ hgx, Post.mono g1 pp⟩
    | exc z h1 => rw [hgx] at pp; exact pp
    | bad => rw [hgx] at pp; exact pp
  · refine thn (ha.run pos pins s1 σ H1 (fun ws H2 => ∃ m2 h2 ys, Go X.K m1 H1 m2 H2 ∧ SR X.K m2 H2 h2 ∧ VRs X.K m2 H2 ys ws ∧ ys.length = ks.length ∧ Post C X.K W σ m2 H2 (rV X.K) Q (F (pick ix (xs ++ ys)) h2)) I1 ⟨m1, env, h1, er.mono go1, sr1, ?_⟩) fun ws s2 ⟨zs, H2, I2, r2, m2, h2, ys, go2, sr2, rr2, hl2, q2⟩ => ⟨I2.kIn, ?_⟩
    · cases hgx : g env h1 with
      | ok ys h2 =>
        rw [hgx] at q
        exact fun m2 H2 vs g1 s1 r1 => ⟨m2, h2, ys, g1, s1, r1, hgl _ _ _ _ hgx, Post.mono g1 q⟩
      | exc z h1 => rw [hgx] at q; exact q
      | bad => rw [hgx] at q; exact q
    · rw [hks]
      have n1 : us.length = nu := by rw [← r.length, ← rr.length]; exact hl
      have n2 : ws.length = ks.length := by rw [← r2.length, ← rr2.length]; exact hl2
      exact run_m (us := pick ix (us ++ ws)) G hr hgd tk I2 (hb s2 us ws n1 n2) (pick_vals (r.append r2) ix) sr2 (pick_vr (VRs.append (VRs.mono go2 _ _ rr) rr2) ix) q2
end
end MM
/-! M6: enumerate over tuples -/
namespace MM
open PySem L2

theorem meets_enumT {v : Value} {o : Obj} {H : Heap → Prop} (B : Begins v o H) :
    Meets (Builtin.«enumerate.__new__» ⟨[.type "enumerate", v], []⟩) (fun _ R s => H s.heap ∧
      R (.ok (.ret (.ref (s.heap.push o).objs.size))) { s with heap := (s.heap.push o).push { cls := .type "enumerate", data := .fields #[.none, .bool false, .ref s.heap.objs.size, rawInt 0, .none, .none] } }) :=
  .of_wp fun prog w A R s h => by
    obtain ⟨hp, g, d, tk, os⟩ := s; obtain ⟨h1, h⟩ := h
    have hsub := sub_enumerate
    have q1 : ∀ {A' : Around} {E : Value → Shared → Prop} {Q : Value → Shared → Prop}, Q (.ref hp.objs.size) ⟨hp.push o, g, d, tk, os⟩ → wpAny (model prog w) A' (pyIter v) Q E ⟨hp, g, d, tk, os⟩ :=
      fun q => B.iter prog w _ _ ⟨hp, g, d, tk, os⟩ _ h1 q
    wp_walk using q1
    refine wpAny_stack_any fun st => wpAny_pure ?_
    split
    · rename_i c _ _ _ _ _
      cases (c == Value.type "enumerate")
      · wp_walk using q1
        exact ⟨_, rfl, h⟩
      · wp_walk using q1
        exact ⟨_, rfl, h⟩
    · wp_walk using q1
      exact ⟨_, rfl, h⟩
section
variable {prog : Program} {w : World} {A : Around} {E : Value → Shared → Prop} {s : Shared}
theorem enum_T {v : Value} {o : Obj} {H : Heap → Prop} {Q : Value → Shared → Prop} (B : Begins v o H) (h1 : H s.heap)
    (h : ∀ h', IsEnum h' (s.heap.objs.size + 1) s.heap.objs.size 0 .none → h'.get? s.heap.objs.size = some o → h'.objs.size = s.heap.objs.size + 2 →
      (∀ b o, s.heap.get? b = some o → h'.get? b = some o) → Q (.ref (s.heap.objs.size + 1)) { s with heap := h' }) :
    wpAny (model prog w) A (call (.type "enumerate") [v]) Q E s := by
  refine callType_new F.called_enumerate (by decide) (F.typeCall_enumerate_1 _) (F.newCall_enumerate_1 _) (fun obj => F.args_object_init_2 obj _) F.entry_enumerate_new
    (meets_enumT B) ⟨h1, ?_⟩
  have hz : (s.heap.push o).objs.size = s.heap.objs.size + 1 := Heap.size_push ..
  show _ ∧ _
  rw [hz]
  have he : IsEnum ((s.heap.push o).push { cls := .type "enumerate", data := .fields #[.none, .bool false, .ref s.heap.objs.size, rawInt 0, .none, .none] }) (s.heap.objs.size + 1) s.heap.objs.size 0 .none := by
    have := Heap.get?_push_size (s.heap.push o) (o := { cls := .type "enumerate", data := .fields #[.none, .bool false, .ref s.heap.objs.size, rawInt 0, .none, .none] }) rfl
    rw [hz] at this; exact this
  exact ⟨⟨_, he, rfl⟩, h _ he (Heap.get?_push_of_some _ (Heap.get?_push_size _ B.free)) (by rw [Heap.size_push, hz]) fun b o x => Heap.get?_push_of_some _ (Heap.get?_push_of_some _ x)⟩
end

/-- a tuple's items with their numbers, each in a new pair -/
def ItT (K : PySem.W.Frag) (a : Addr) : It :=
  ⟨fun i H => ∃ (xs : List V) (x : V), SqT K H a xs ∧ xs[i]? = some x, fun i H v H' => ∃ T x ob, v = .ref T ∧ H T = none ∧ ob.dict = none ∧ H' = upd H T (.frz ob (.tup [.int (i : Nat), x])) ∧ ∀ xs, SqT K H a xs → xs[i]? = some x, fun i H => ∃ xs : List V, SqT K H a xs ∧ xs.length ≤ i⟩
theorem turn_enumT {P : Program} {w : World} {K : PySem.W.Frag} {elts : List Expr} {kk : Nat} {tpos : Pos} (a e it : Addr) (hei : e ≠ it) (hea : e ≠ a) (hai : a ≠ it) :
    Turn P w K (.Tuple elts kk tpos) (ItT K a) [e, it] e (fun i h => (∃ old, IsEnum h e it ((i : Nat) : Int) old) ∧ h.IsTupleIter it a i) where
  mem := by simp
  obj := fun i h st b hb => by
    obtain ⟨⟨old, he⟩, ⟨o, ho, hc, hd⟩⟩ := st
    have e' : b = e ∨ b = it := by simpa using hb
    rcases e' with z | z
    · rw [z]; exact ⟨_, he, fun v q => nomatch q⟩
    · rw [z]; exact ⟨o, ho, fun v q => by rw [hd] at q; cases q⟩
  keep := fun i h h' st k => let ⟨⟨old, he⟩, hi⟩ := st; ⟨⟨old, k e (by simp) _ he⟩, hi.at fun o q => k it (by simp) o q⟩
  item := by
    intro X hP hw hK hc i pins s σ H E I hf st hg
    subst hP hw hK
    obtain ⟨⟨old, he⟩, hit⟩ := st
    obtain ⟨xs, x, hq, hx⟩ := hg
    obtain ⟨its, rv, p, hz⟩ := I.tuple hq
    obtain ⟨u, hu, ru⟩ := rv.get hx
    have hel : e < s.heap.objs.size := Heap.lt_size he
    have hil : it < s.heap.objs.size := by obtain ⟨_, q, _⟩ := hit; exact Heap.lt_size q
    have hlt : i < its.toArray.size := by
      have := (List.getElem?_eq_some_iff.mp hu).1
      simpa using this
    have hh : X.A.in1.handled = none := I.ok.hd hc
    refine wpAny_pyNext_enum_itemD (Draws.tuple hh it a hai its.toArray) he ⟨hit, p⟩ hlt hei (by simp [hei, hea]) fun x' h' tk hx' ho st' hT hsz hk => ?_
    obtain ⟨hit', hp'⟩ := st'
    have hxu : x' = u := by
      have h1 : its.toArray[i]? = some x' := hx'
      have h2 : its.toArray[i]? = some u := by simpa using hu
      rw [h1] at h2
      exact Option.some.inj h2
    subst hxu
    refine ⟨_, rfl, wpAny_letOwnedTupleGo_enum (s := { s with heap := h', toks := tk + 1 }) ho fun h'' he' sb => ?_⟩
    have hT2 : h''.get? s.heap.objs.size = some { cls := .type "tuple", data := .seq #[.int i tk, x'] } := (sb.2 _ (Nat.ne_of_gt hel)).trans hT
    have new : ObjOk X.prog X.w (upd H s.heap.objs.size (.frz { cls := .type "tuple", data := .seq #[.int i tk, x'] } (.tup [.int (i : Nat), x]))) h'' s.heap.objs.size (.frz { cls := .type "tuple", data := .seq #[.int i tk, x'] } (.tup [.int (i : Nat), x])) :=
      ⟨hT2, by show 2 ≤ sizeLine; decide, [.int i tk, x'], .cons ⟨_, rfl⟩ (.cons ru .nil), ⟨_, hT2, rfl, _, rfl⟩⟩
    have I1 : Inv X pins σ (upd H s.heap.objs.size (.frz { cls := .type "tuple", data := .seq #[.int i tk, x'] } (.tup [.int (i : Nat), x]))) { s with heap := h'', toks := tk + 1 } :=
      I.turnedNew (ch := [e, it]) (fun b ob hb q => (sb.2 b (fun z => hb (by simp [z]))).trans (hk b ob (fun z => hb (by simp [z])) (fun z => hb (by simp [z])) q)) hf (Nat.le_refl _) new
    refine ⟨.ref s.heap.objs.size, _, I1, rfl, ⟨_, x, _, rfl, I.hok.fresh (Nat.le_refl _), rfl, rfl, fun ys hy => by rw [I.tuple_inj hy hq]; exact hx⟩, ⟨⟨x', ?_⟩, hit'.at fun o q => (sb.2 it (Ne.symm hei)).trans q⟩, fun b hb => ?_⟩
    · have e1 : ((i + 1 : Nat) : Int) = (i : Int) + 1 := by omega
      rw [e1]; exact he'
    · have hb' : b < s.heap.objs.size := by
        have e' : b = e ∨ b = it := by simpa using hb
        rcases e' with z | z
        · rw [z]; exact hel
        · rw [z]; exact hil
      rw [upd_ne (Nat.ne_of_lt hb')]
      exact (hf b hb).1
  done := by
    intro X hP hw hK hc i pins s σ H E I hf st hg
    subst hP hw hK
    obtain ⟨⟨old, he⟩, hit⟩ := st
    obtain ⟨xs, hq, hx⟩ := hg
    obtain ⟨its, rv, p, hz⟩ := I.tuple hq
    obtain ⟨f0, f1, f2, f3, f4, f5⟩ := hf it (by simp)
    have hl := rv.length
    have hh : X.A.in1.handled = none := I.ok.hd hc
    have hend : its.toArray[i]? = none := by simp; omega
    have hT : s.TypeIs (.ref e) "enumerate" := ⟨_, he, rfl⟩
    unfold pyNext
    refine wpAny_bind (wpAny_attempt (wpAny_callSpecial?_slot (name := Str.ofString "__next__") hT F.slot_enumerate_next
      (wpAny_call_entry F.slot_enumerate_next hT F.entry_enumerate_next ?_ (F.args_enumerate_next_1 _))))
    show wpAny _ _ (field (.ref e) 2 >>= _) _ _ _
    refine wpAny_bind (wpAny_field he rfl (x := .ref it) rfl ?_)
    refine wpAny_bind (wpAny_nextOf_tuple_end hh hit p hend fun h' x he' hx' => ?_)
    obtain ⟨o, ho, hc⟩ := hx'
    refine wpAny_bind (wpAny_isInstance (T := "StopIteration") (b := true) ⟨o, ho, hc⟩ isSubtype_stop ?_)
    exact wpAny_pure ⟨rfl, I.turned (t' := s.toks) (fun b o hb q => he' b o hb q) f0 f1 f3 f4 f5⟩
  self := fun A i s Q E st h => let ⟨⟨_, he⟩, _⟩ := st; wpAny_pyIter_enum he h
def iEnumA (K : PySem.W.Frag) (ta : TA) : TI := fun σ H R => ta σ H fun vs H1 => ∃ a xs, vs = [.ref a] ∧ SqT K H1 a xs ∧ R (ItT K a) H1
theorem pi_enumT {X : Cx} {e : Expr} {ta : TA} {p pos tpos : Pos} {elts : List Expr} {kk : Nat} (hg : Gl X "enumerate") (hm : X.mg "enumerate" = none) (ha : PA X [e] ta) (hs : starEach [e] X.env = [(false, eval e X.env)]) :
    PI X (.Tuple elts kk tpos) (.Call (.Name "enumerate" p) [e] [] pos) (iEnumA X.K ta) := by
  refine ⟨fun pins s σ H R I h => ?_⟩
  refine PyProof.Rows.Call_ (ld_blt (u := .type "enumerate") I hg hm (by decide +kernel) (PyProof.Rows.callWith_type1 (thn (ha.run pos pins s σ H _ I h) fun us s1 ⟨vs, H1, I1, r1, q1⟩ => ?_) hs rfl))
  obtain ⟨a, xs, ex, hq, q⟩ := q1
  subst ex
  cases r1 with
  | cons r rr =>
    cases rr
    cases r
    obtain ⟨its, rv, p', hz⟩ := I1.tuple hq
    have hal : a < s1.heap.objs.size := by obtain ⟨_, q, _⟩ := p'; exact Heap.lt_size q
    refine enum_T (begins_tuple a its.toArray) p' fun h' he hit hsz hk => wpAny_pyIter_enum he ?_
    have I2 : Inv X pins σ H1 { s1 with heap := h' } := I1.kept (t' := s1.toks) hk
    refine ⟨s1.heap.objs.size + 1, [s1.heap.objs.size + 1, s1.heap.objs.size], _, _, H1, rfl, I2, turn_enumT a (s1.heap.objs.size + 1) s1.heap.objs.size (Nat.succ_ne_self _) (fun z => absurd hal (Nat.not_lt.mpr (z ▸ Nat.le_succ _))) (Nat.ne_of_lt hal), ⟨⟨.none, he⟩, ⟨_, hit, rfl, rfl⟩⟩, fun b hb => ?_, q⟩
    have e' : b = s1.heap.objs.size + 1 ∨ b = s1.heap.objs.size := by simpa using hb
    have hle : s1.heap.objs.size ≤ b := by
      rcases e' with z | z
      · rw [z]; exact Nat.le_add_right _ _
      · rw [z]; exact Nat.le_refl _
    exact I1.fpOk hle (I1.hok.fresh hle)
theorem enumFrom_at : ∀ (xs : List IV) (j i : Nat) (x : IV), xs[i]? = some x → (enumFrom j xs)[i]? = some (.tup [.int ((j + i : Nat) : Int), x])
  | y :: ys, j, 0, x, h => by
    rw [List.getElem?_cons_zero] at h
    cases h
    unfold enumFrom
    rfl
  | y :: ys, j, i + 1, x, h => by
    rw [List.getElem?_cons_succ] at h
    have e := enumFrom_at ys (j + 1) i x h
    unfold enumFrom
    rw [List.getElem?_cons_succ, e]
    have : j + 1 + i = j + (i + 1) := by omega
    rw [this]
theorem enumFrom_len : ∀ (xs : List IV) (j : Nat), (enumFrom j xs).length = xs.length
  | [], _ => rfl
  | _ :: ys, j => by unfold enumFrom; simp [enumFrom_len ys]
def iEnumT (f : EM) : ItM := fun e h => (f e h).bind fun x h1 => match x with
  | .tup xs => .ok (enumFrom 0 xs, fun _ => true) h1
  | _ => .bad
theorem mi_enumT {X : Cx} {C : Cc} {W : WX} {e : Expr} {f : EM} {p pos tpos : Pos} {elts : List Expr} {kk : Nat} (hg : Gl X "enumerate") (hm : X.mg "enumerate" = none) (he : PE X e (tE C X.K W f)) (hs : starEach [e] X.env = [(false, eval e X.env)]) :
    PI X (.Tuple elts kk tpos) (.Call (.Name "enumerate" p) [e] [] pos) (tIt C X.K W (iEnumT f)) :=
  ⟨fun pins s σ H R I ⟨m, env, h, er, sr, q⟩ => (pi_enumT (elts := elts) (kk := kk) (tpos := tpos) hg hm (m_aCons he m_aNil hs) hs).run pins s σ H R I (by
    refine ⟨m, env, h, er, sr, ?_⟩
    unfold aCons aNil
    have q2 : Post C X.K W σ m H (rI X.K) R ((f env h).bind fun x h1 => match x with
      | .tup xs => .ok (enumFrom 0 xs, fun _ => true) h1
      | _ => .bad) := q
    cases hf : f env h with
    | bad => rw [hf] at q2; exact q2
    | exc z h1 => rw [hf] at q2; exact q2
    | ok x h1 =>
      rw [hf] at q2
      intro m1 H1 us g1 s1 r1
      have q3 := Post.mono g1 q2
      change VRs X.K m1 H1 [x] us at r1
      simp only [VRs] at r1
      obtain ⟨v1, r, rfl, rv, rfl⟩ := r1
      cases x <;> first | exact q2.elim | skip
      rename_i xs
      simp only [VR] at rv
      obtain ⟨a, vs, rfl, t, rr⟩ := rv
      refine ⟨a, vs, rfl, t.sq, Post.here q3 s1 ?_⟩
      refine ⟨fun H2 => SqT X.K H2 a vs, fun i H2 x H3 => ∃ T u ob, x = .ref T ∧ H2 T = none ∧ ob.dict = none ∧ H3 = upd H2 T (.frz ob (.tup [.int (i : Nat), u])) ∧ vs[i]? = some u, ?_, fun m2 H2 h2 g2 s2 _ => ⟨(g2.tup _ _ t).sq, fun i x H3 hi ⟨T, u, ob, e1, e2, ed, e3, e4⟩ => ?_⟩⟩
      · dsimp only
        rw [enumFrom_len, rr.length]
        refine ⟨fun i H hi h => ⟨vs, vs[i], h, List.getElem?_eq_getElem hi⟩, fun H h => ⟨vs, h, Nat.le_refl _⟩, fun i H x H' hi h ⟨T, u, ob, e1, e2, ed, e3, e4⟩ => ⟨T, u, ob, e1, e2, ed, e3, e4 vs h⟩⟩
      · subst e1; subst e3
        have hi2 : i < xs.length := by rw [rr.length]; exact (List.getElem?_eq_some_iff.mp e4).1
        obtain ⟨v, h5, h6⟩ := rr.get (List.getElem?_eq_getElem hi2)
        rw [e4] at h5; cases h5
        refine ⟨_, enumFrom_at xs 0 i _ (List.getElem?_eq_getElem hi2), Go.laid e2, s2.laid e2, VR.newTup e2 ed ?_⟩
        simp only [VRs, VR]
        exact ⟨.int ((0 + i : Nat) : Int), [u], by simp, rfl, u, [], rfl, VR.mono g2 _ _ h6, rfl⟩)⟩
end MM
/-! M7: lists joined and repeated, garbage, calls in short, the law's end -/
namespace MM
open PySem L2

section
variable {X : Cx} {C : Cc} {W : WX}
/-! ### [..] * n, [..] + [..] -/
theorem flat_rel {K : PySem.W.Frag} {m : List Addr} {H : Hp} {xs : List IV} {vs : List V} (r : VRs K m H xs vs) : ∀ n : Nat, VRs K m H (List.replicate n xs).flatten (List.replicate n vs).flatten
  | 0 => by simp [VRs]
  | n + 1 => by
    rw [List.replicate_succ, List.replicate_succ, List.flatten_cons, List.flatten_cons]
    exact VRs.append r (flat_rel r n)
theorem m_rep {a b : Expr} {f : IEnv → IH → R (List IV)} {g : EM} {pos : Pos} (ha : PE X a (tL C X.K W f)) (hb : PE X b (tE C X.K W g)) : PE X (.BinOp a .Mult b pos) (tL C X.K W (lRep f g)) :=
  pe_weak (pe_op op_rep ha hb) fun σ H Q ⟨m, env, h, er, sr, p⟩ => ⟨m, env, h, er, sr, tg_run p fun m1 H1 xs h1 u g1 s1 r1 p1 => ⟨m1, env, h1, er.mono g1, s1, tg_run p1 fun m2 H2 y h2 v g2 s2 r2 p2 => by
    obtain ⟨q, vs, rfl, n, _, hq, rr⟩ := r1
    cases y <;> first | exact p2.elim | skip
    rename_i k
    simp only [rV, VR] at r2
    subst r2
    dsimp only at p2
    split at p2
    · rename_i hz
      refine ⟨q, k, vs, rfl, rfl, g2.fr _ _ hq n, hz.1, hz.2.1, by rw [← rr.length]; exact hz.2.2, fun w hw => post_lst s2 p2 (flat_rel (VRs.mono g2 _ _ rr) _) hw⟩
    · exact p2.elim⟩⟩
theorem m_cat {a b : Expr} {f g : IEnv → IH → R (List IV)} {pos : Pos} (ha : PE X a (tL C X.K W f)) (hb : PE X b (tL C X.K W g)) : PE X (.BinOp a .Add b pos) (tL C X.K W (lCat f g)) :=
  pe_weak (pe_op op_cat ha hb) fun σ H Q ⟨m, env, h, er, sr, p⟩ => ⟨m, env, h, er, sr, tg_run p fun m1 H1 xs h1 u g1 s1 r1 p1 => ⟨m1, env, h1, er.mono g1, s1, tg_run p1 fun m2 H2 ys h2 v g2 s2 r2 p2 => by
    obtain ⟨q, vs, rfl, n, _, hq, rr⟩ := r1
    obtain ⟨q', ws, rfl, n', _, hq', rr'⟩ := r2
    split at p2
    · rename_i hz
      exact ⟨q, q', vs, ws, rfl, rfl, g2.fr _ _ hq n, hq', by rw [← rr.length, ← rr'.length]; exact hz, fun w hw => post_lst s2 p2 (VRs.append (VRs.mono g2 _ _ rr) rr') hw⟩
    · exact p2.elim⟩⟩

/-! ### what was made within goes -/
def gcE (f : EM) : EM := fun env h => match f env h with
  | .ok v h1 => finR h.length v h1
  | r => r
theorem m_gc {e : Expr} {f : EM} (he : PE X e (tE C X.K W f)) : PE X e (tE C X.K W (gcE f)) :=
  pe_weak he fun σ H Q ⟨m, env, h, er, sr, p⟩ => ⟨m, env, h, er, sr, by
    unfold gcE at p
    cases hf : f env h with
    | ok v h1 =>
      rw [hf] at p
      rw [← sr.len] at p
      exact fun m1 H1 u g1 s1 r1 => finR_run g1 s1 r1 p
    | exc z h1 => rw [hf] at p; exact p
    | bad => rw [hf] at p; exact p⟩
def finB (n : Nat) (b : Bool) (h : IH) : R Bool := if (h.take n).all (belowO n) = true then .ok b (h.take n) else .ok b h
def gcT (f : IEnv → IH → R Bool) : IEnv → IH → R Bool := fun env h => match f env h with
  | .ok v h1 => finB h.length v h1
  | r => r
theorem m_gcT {e : Expr} {f : IEnv → IH → R Bool} (he : PT X e (tT C X.K W f)) : PT X e (tT C X.K W (gcT f)) :=
  pt_weak he fun σ H Q ⟨m, env, h, er, sr, p⟩ => ⟨m, env, h, er, sr, by
    unfold gcT at p
    cases hf : f env h with
    | ok v h1 =>
      rw [hf] at p
      rw [← sr.len] at p
      intro m1 H1 u g1 s1 r1
      change Post C X.K W σ m H rB Q (finB m.length v h1) at p
      unfold finB at p
      split at p
      · rename_i hb
        exact p m H1 u g1.back (s1.cut g1 hb) r1
      · exact p m1 H1 u g1 s1 r1
    | exc z h1 => rw [hf] at p; exact p
    | bad => rw [hf] at p; exact p⟩

/-! ### a fresh list, frozen -/
def eFz (f : IEnv → IH → R (List IV)) : EM := fun env h => (f env h).bind fun xs h1 => .ok (.fz xs) h1
theorem fz_post {σ : St} {m : List Addr} {H : Hp} {Q : VK} {r : R (List IV)} (p : Post C X.K W σ m H (rV X.K) Q (r.bind fun xs h1 => .ok (.fz xs) h1)) : Post C X.K W σ m H (rL X.K) (fun u H1 => ∃ as, ∀ H2, Locked as H1 H2 → Q u H2) r := by
  cases r with
  | ok xs h1 =>
    intro m1 H1 u g1 s1 ⟨a, vs, e, n, f, q, rr⟩
    subst e
    have n0 : a ∉ m := fun z => by
      obtain ⟨k, e⟩ := List.mem_iff_getElem?.mp z
      exact n (List.mem_of_getElem? (g1.pre k a e))
    refine ⟨[a], fun H2 L => p m1 H2 (.ref a) (L.go g1 fun b hb _ => by simp at hb; subst hb; exact f n0) (L.sr s1 fun b hb => by simp at hb; subst hb; exact n) ?_⟩
    obtain ⟨ob, q3⟩ := L.at_ a vs (by simp) q
    show VR X.K m1 H2 (.fz xs) (.ref a)
    simp only [VR]
    exact ⟨a, vs, rfl, .inl ⟨ob, q3⟩, L.vrs _ _ rr⟩
  | exc x h1 => exact p
  | bad => exact p
theorem m_fz {e : Expr} {f : IEnv → IH → R (List IV)} (he : PE X e (tL C X.K W f)) : PE X e (tE C X.K W (eFz f)) :=
  ⟨fun pins s σ H Q I ⟨m, env, h, er, sr, p⟩ => thn (he.run pins s σ H (fun u H1 => ∃ as, ∀ H2, Locked as H1 H2 → Q u H2) I ⟨m, env, h, er, sr, fz_post p⟩) fun v s1 ⟨u, H1, I1, rv, as, q⟩ =>
    let ⟨H2, I2, L⟩ := lock_all as I1; ⟨u, H2, I2, rv, q H2 L⟩⟩

/-! ### behind a block the small heap is as long as ahead of it -/
def frzE (h : IH) (n : Nat) (e : IEnv) : IEnv := e.map fun o => o.bind (froz h n 70)
def gcS (n : Nat) (e : IEnv) (h : IH) (k : IEnv → IH → RS) : RS := if (h.take n).all (belowO n) = true then k (frzE h n e) (h.take n) else .bad
def sGc (f : SM) : SM := fun e h => match f e h with
  | .nx e1 h1 => gcS h.length e1 h1 .nx
  | .bk e1 h1 => gcS h.length e1 h1 .bk
  | .ct e1 h1 => gcS h.length e1 h1 .ct
  | r => r
theorem frzE_er {K : PySem.W.Frag} {m m' : List Addr} {H' H2 : Hp} {h : IH} {e : IEnv} {σ : St} {n : Nat} (er : ER K m' H' e σ) (s : SR K m' H' h) (pre : ∀ k : Nat, k < n → m'[k]? = m[k]?) (L : Locked (m'.drop n) H' H2) : ER K m H2 (frzE h n e) σ :=
  ⟨by unfold frzE; rw [List.length_map]; exact er.len, fun i w q => by
    unfold frzE at q
    rw [List.getElem?_map] at q
    cases hx : e[i]? with
    | none => rw [hx] at q; cases q
    | some o =>
      rw [hx] at q
      cases o with
      | none => cases q
      | some x =>
        have q : some (froz h n 70 x) = some (some w) := q
        obtain ⟨v, h1, r⟩ := er.at_ i x hx
        exact ⟨v, h1, froz_vr s pre L 70 x w v (Option.some.inj q) r⟩⟩
theorem gcS_run {K : PySem.W.Frag} {m m' : List Addr} {H H' : Hp} {h : IH} {e : IEnv} {σ : St} {k : IEnv → IH → RS} {D : Ends} {P : St → Hp → Prop} (g : Go K m H m' H') (er : ER K m' H' e σ) (s : SR K m' H' h) (p : PostS C K W m H D (gcS m.length e h k))
    (hk : ∀ e2 h2 H2, PostS C K W m H D (k e2 h2) → Go K m H m H2 → ER K m H2 e2 σ → SR K m H2 h2 → P σ H2) : ∃ as, ∀ H2, Locked as H' H2 → P σ H2 := by
  unfold gcS at p
  split at p
  · rename_i hb
    refine ⟨m'.drop m.length, fun H2 L => ?_⟩
    have q := gc_sr g s L hb
    exact hk _ _ H2 p q.1 (frzE_er er s (pre_at g) L) q.2
  · exact p.elim
theorem mss_gc {sts : List Stmt} {f : SM} (hb : PSs X sts (tS C X.K W f)) : PSs X sts (tS C X.K W (sGc f)) :=
  ⟨fun pins s σ H D I ⟨m, e, h, er, sr, p⟩ => by
    refine thn (hb.run pins s σ H { nx := fun σ' H' => ∃ as, ∀ H2, Locked as H' H2 → D.nx σ' H2, bk := fun σ' H' => ∃ as, ∀ H2, Locked as H' H2 → D.bk σ' H2, ct := fun σ' H' => ∃ as, ∀ H2, Locked as H' H2 → D.ct σ' H2, rt := D.rt } I ⟨m, e, h, er, sr, ?_⟩) fun fl s1 q => ?_
    · unfold sGc at p
      cases hf : f e h with
      | nx e1 h1 => rw [hf] at p; exact fun m1 σ1 H1 g1 er1 s1 => gcS_run (k := .nx) (P := D.nx) g1 er1 s1 (by rw [sr.len]; exact p) fun e2 h2 H2 q a b c => q m σ1 H2 a b c
      | bk e1 h1 => rw [hf] at p; exact fun m1 σ1 H1 g1 er1 s1 => gcS_run (k := .bk) (P := D.bk) g1 er1 s1 (by rw [sr.len]; exact p) fun e2 h2 H2 q a b c => q m σ1 H2 a b c
      | ct e1 h1 => rw [hf] at p; exact fun m1 σ1 H1 g1 er1 s1 => gcS_run (k := .ct) (P := D.ct) g1 er1 s1 (by rw [sr.len]; exact p) fun e2 h2 H2 q a b c => q m σ1 H2 a b c
      | rt v h1 => rw [hf] at p; exact p
      | exc x e1 h1 => rw [hf] at p; exact p
      | bad => rw [hf] at p; exact p
    · cases fl with
      | next => obtain ⟨σ1, H1, I1, as, q⟩ := q; obtain ⟨H2, I2, L⟩ := lock_all as I1; exact ⟨σ1, H2, I2, q H2 L⟩
      | brk => obtain ⟨σ1, H1, I1, as, q⟩ := q; obtain ⟨H2, I2, L⟩ := lock_all as I1; exact ⟨σ1, H2, I2, q H2 L⟩
      | cont => obtain ⟨σ1, H1, I1, as, q⟩ := q; obtain ⟨H2, I2, L⟩ := lock_all as I1; exact ⟨σ1, H2, I2, q H2 L⟩
      | ret v => exact q⟩
/-- a name's list is frozen -/
def sFz (i : Nat) (f : SM) : SM := fun e h => match e[i]? with
  | some (some (.ref k)) => match h[k]? with
    | some (.lst xs) => if belows 0 xs = true then f (e.set i (some (.fz xs))) (h.set k .gone) else .bad
    | _ => .bad
  | _ => f e h
theorem mss_fz {sts : List Stmt} {f : SM} {i : Nat} (hb : PSs X sts (tS C X.K W f)) : PSs X sts (tS C X.K W (sFz i f)) :=
  ⟨fun pins s σ H D I ⟨m, e, h, er, sr, p⟩ => by
    unfold sFz at p
    split at p
    · rename_i k he
      split at p
      · rename_i xs hk
        split at p
        · rename_i hx
          obtain ⟨v, hv, r⟩ := er.at_ i _ he
          obtain ⟨a, vs, rfl, e1, q, rr⟩ := lst_at sr r hk
          obtain ⟨H2, I2, L⟩ := lock_all [a] I
          obtain ⟨ob, q3⟩ := L.at_ a vs (by simp) q
          have hkl : k < h.length := (List.getElem?_eq_some_iff.mp hk).1
          have g2 : Go X.K m H m H2 := ⟨fun _ _ z => z, fun _ z => .inl z, fun b o z n => by rw [L.out b (fun z => by simp at z; subst z; exact n (List.mem_of_getElem? e1))]; exact z, L.tup, fun b o u z => L.frz z⟩
          have s2 : SR X.K m H2 (h.set k .gone) := ⟨by rw [List.length_set]; exact sr.len, sr.nd, fun j o ej => by
            by_cases hj : k = j
            · subst hj
              rw [List.getElem?_set_self hkl] at ej; cases ej
              exact ⟨a, e1, _, _, q3⟩
            · rw [List.getElem?_set_ne hj] at ej
              obtain ⟨b, eb, ob⟩ := sr.obj j o ej
              have nb : b ∉ [a] := fun z => hj (by
                simp at z
                subst z
                exact (List.getElem_inj sr.nd (h₀ := (List.getElem?_eq_some_iff.mp e1).1) (h₁ := (List.getElem?_eq_some_iff.mp eb).1)).mp (by rw [(List.getElem?_eq_some_iff.mp e1).2, (List.getElem?_eq_some_iff.mp eb).2]))
              refine ⟨b, eb, ?_⟩
              cases o with
              | lst ys =>
                obtain ⟨ws, q1, q2⟩ := ob
                exact ⟨ws, by rw [L.out b nb]; exact q1, L.vrs _ _ q2⟩
              | gone =>
                obtain ⟨u, ws, q1⟩ := ob
                exact ⟨u, ws, by rw [L.out b nb]; exact q1⟩⟩
          have hi : i < e.length := (List.getElem?_eq_some_iff.mp he).1
          have er2 : ER X.K m H2 (e.set i (some (.fz xs))) σ := by
            refine ⟨by rw [List.length_set]; exact er.len, fun j y ej => ?_⟩
            by_cases hj : i = j
            · subst hj
              rw [List.getElem?_set_self hi] at ej; cases ej
              refine ⟨.ref a, hv, ?_⟩
              simp only [VR]
              exact ⟨a, vs, rfl, .inl ⟨ob, q3⟩, L.vrs _ _ rr⟩
            · rw [List.getElem?_set_ne hj] at ej
              obtain ⟨v, h1, h2⟩ := er.at_ j y ej
              exact ⟨v, h1, L.vr _ _ h2⟩
          exact hb.run pins s σ H2 D I2 ⟨m, _, _, er2, s2, p.mono g2⟩
        · exact p.elim
      · exact p.elim
    · exact hb.run pins s σ H D I ⟨m, e, h, er, sr, p⟩⟩

/-! ### a, b, c = x, y, z -/
theorem ms_par3 {i j l : Nat} {x y z : Str} {a b c : Expr} {f : IEnv → IH → R (List IV)} {px py pz pt pos : Pos} {kt k2 pt2} (hc : X.calm = true) (hN : X.N.Nodup) (hi : X.N[i]? = some x) (hj : X.N[j]? = some y) (hl : X.N[l]? = some z) (hij : i ≠ j) (hil : i ≠ l) (hjl : j ≠ l)
    (hx : X.env.scope.names.lookup x = some .local) (hy : X.env.scope.names.lookup y = some .local) (hz : X.env.scope.names.lookup z = some .local) (ha : PA X [a, b, c] (tA C X.K W f))
    (hw : swappedStores [.Tuple [.Name x px, .Name y py, .Name z pz] kt pt] (.Tuple [a, b, c] k2 pt2) X.env = pure (some [x, y, z]))
    (hs : swapsWithSole [.Tuple [.Name x px, .Name y py, .Name z pz] kt pt] (.Tuple [a, b, c] k2 pt2) pos.line X.env = pure false) :
    PS X (.Assign [.Tuple [.Name x px, .Name y py, .Name z pz] kt pt] (.Tuple [a, b, c] k2 pt2) pos) (tS C X.K W (sPar [i, j, l] f)) :=
  ps_weak (L2.ps_par3 hc hN hi hj hl hij hil hjl hx hy hz ha hw hs) fun D σ H ⟨m, e, h, er, sr, p⟩ => ⟨m, e, h, er, sr, ts_run er p fun m1 H1 vs h1 us g1 s1 er1 r1 p1 => by
    split at p1
    · rename_i hl
      match vs, hl, r1, p1 with
      | [u, w, t], _, r1, p1 =>
        have r1 : VRs X.K m1 H1 [u, w, t] us := r1
        simp only [VRs] at r1
        obtain ⟨v1, q1, rfl, ru, v2, q2, rfl, rw', v3, q3, rfl, rt, rfl⟩ := r1
        exact ⟨v1, v2, v3, rfl, p1 m1 _ H1 Go.refl (((er1.set ru).set rw').set rt) s1⟩
    · exact p1.elim⟩
end

/-! ### a def known by its name -/
structure CalM (P : Program) (w : World) (K : PySem.W.Frag) (mg : Str → Option Value) (base : Heap) (C : Cc) (k : Nat) (x : Str) (st : Stmt) (ps : List Str) (F : FM) : Prop where
  ex : ∃ (f : Addr) (fd : FuncData), FnM P w K mg base C k f fd ps F ∧ mg x = some (.ref f) ∧ Fun K x x st f fd
theorem Fun.kw {K : PySem.W.Frag} {x qual : Str} {st : Stmt} {f : Addr} {fd : FuncData} {ps ks : List Str} {ix : List Nat} {nu : Nat} (F : Fun K x qual st f fd)
    (h : ∀ (kV doc pm : Value) (an : Option Addr) (cdv ct : Value) (us ws : List Value), us.length = nu → ws.length = ks.length → bindArgs (PySem.W.fnOf x qual (defArgs st) (defBody st) (defScope st) .none kV doc pm an cdv ct) ⟨us, ks.zip ws⟩ = pure (ps.zip (pick ix (us ++ ws)))) : KwOk K fd ps ks ix nu := by
  obtain ⟨oc, od, kV, doc, pm, an, cdv, ct, osl, rfl, lk, hcd⟩ := F.ex
  exact fun s us ws h1 h2 => .of_eq (h kV doc pm an cdv ct us ws h1 h2)
section
variable {X : Cx} {C : Cc} {W : WX}
theorem g_call {j k : Nat} {st : Stmt} {ps : List Str} {F : FM} {x : Str} {e : Expr} {es : List Expr} {p pos : Pos} {g : IEnv → IH → R (List IV)} (c : CalM X.prog X.w X.K X.mg X.base C j x st ps F) (hr : Room k X.A) (hgd : X.A.guards = some []) (tk : Takes X W)
    (hb : ∀ f fd, Fun X.K x x st f fd → Binds X.K fd ps []) (ha : PA X (e :: es) (tA C X.K W g)) (hjk : j ≤ k := by decide) (hg : Gl X x := by rfl) (hdb : (x == ("__debug__" : Str)) = false := by decide +kernel)
    (he : starEach (e :: es) X.env = (false, eval e X.env) :: starEach es X.env := by rfl) (hpl : (backTo pos (starEach es X.env)).any (·.1) = false := by rfl) : PE X (.Call (.Name x p) (e :: es) [] pos) (tE C X.K W (eC F g)) := by
  obtain ⟨f, fd, G, hm, F1⟩ := c.ex
  exact m_call G (hr.mono hjk) hgd tk hg hm F1.kp (hb f fd F1) ha hdb he hpl
theorem g_callK0 {j k : Nat} {st : Stmt} {ps ks : List Str} {ix : List Nat} {F : FM} {x : Str} {kws : List Keyword} {p pos : Pos} {g : IEnv → IH → R (List IV)} (c : CalM X.prog X.w X.K X.mg X.base C j x st ps F) (hr : Room k X.A) (hgd : X.A.guards = some []) (tk : Takes X W)
    (hb : ∀ f fd, Fun X.K x x st f fd → KwOk X.K fd ps ks ix 0) (ha : PK X kws (tA C X.K W g)) (hgl : ∀ env h xs h1, g env h = .ok xs h1 → xs.length = ks.length) (hnk : kws.length = ks.length := by rfl) (hjk : j ≤ k := by decide) (hg : Gl X x := by rfl) (hdb : (x == ("__debug__" : Str)) = false := by decide +kernel)
    (hall : (backToKw pos (keywordEach kws X.env)).all (·.1.isSome) = true := by rfl) (hks : (backToKw pos (keywordEach kws X.env)).filterMap (·.1) = ks := by rfl)
    (hpl : ((backTo pos (starEach [] X.env)).any (·.1) || (backToKw pos (keywordEach kws X.env)).any (·.1.isNone)) = false := by rfl) :
    PE X (.Call (.Name x p) [] kws pos) (tE C X.K W (eCK F ix aNil g)) := by
  obtain ⟨f, fd, G, hm, F1⟩ := c.ex
  exact m_callK0 G (hr.mono hjk) hgd tk hg hm F1.kp (hb f fd F1) ha hnk hdb hall hks hgl hpl
theorem aNil_len (env : IEnv) (h : IH) (xs : List IV) (h1 : IH) (q : aNil env h = .ok xs h1) : xs.length = 0 := by cases q; rfl
theorem aCons_len {n : Nat} {f : EM} {g : IEnv → IH → R (List IV)} (hg : ∀ env h xs h1, g env h = .ok xs h1 → xs.length = n) (env : IEnv) (h : IH) (xs : List IV) (h1 : IH) (q : aCons f g env h = .ok xs h1) : xs.length = n + 1 := by
  unfold aCons at q
  cases e1 : f env h with
  | bad => rw [e1] at q; cases q
  | exc _ _ => rw [e1] at q; cases q
  | ok x h2 =>
    rw [e1] at q
    change (g env h2).bind _ = _ at q
    cases e2 : g env h2 with
    | bad => rw [e2] at q; cases q
    | exc _ _ => rw [e2] at q; cases q
    | ok ys h3 =>
      rw [e2] at q
      change R.ok _ _ = _ at q
      cases q
      rw [List.length_cons, hg _ _ _ _ e2]
end

/-! ### a def by its values alone -/
/-- called with values that hold no list of the small heap: with none at all -/
def pureF (F : FM) : FM := fun vs h => if belows 0 vs = true then match F vs [] with
    | .ok v [] => .ok v h
    | .exc x [] => .exc x h
    | _ => .bad
  else .bad
theorem belows_cut {K : PySem.W.Frag} {m : List Addr} {H : Hp} {xs : List IV} {vs : List V} (r : VRs K m H xs vs) (b : belows 0 xs = true) : VRs K [] H xs vs := VRs.cut (m' := m) (n := 0) (fun _ hk => absurd hk (Nat.not_lt_zero _)) xs vs r b
theorem nil_go {K : PySem.W.Frag} {m m1 : List Addr} {H H1 : Hp} (g : Go K [] H m1 H1) : Go K m H m H1 := ⟨fun _ _ e => e, fun _ e => .inl e, fun a o e _ => g.fr a o e (by simp), g.tup, g.frz⟩
theorem nil_sr {K : PySem.W.Frag} {m m1 : List Addr} {H H1 : Hp} {h : IH} (g : Go K [] H m1 H1) (s : SR K m H h) : SR K m H1 h :=
  ⟨s.len, s.nd, fun k o e => by
    obtain ⟨a, e1, q⟩ := s.obj k o e
    exact ⟨a, e1, OR.mono (nil_go g) (fun u z => g.fr a u z (by simp)) q⟩⟩
theorem nil_vr {K : PySem.W.Frag} {m m1 : List Addr} {H : Hp} {x : IV} {v : V} (e : m1.length = 0) (r : VR K m1 H x v) : VR K m H x v := by
  have : m1 = [] := List.length_eq_zero_iff.mp e
  subst this
  exact VR.imp (fun k a q => by simp at q) (fun _ _ t => t) (fun _ _ t => t) x v r
theorem FnM.pure {P : Program} {w : World} {K : PySem.W.Frag} {mg : Str → Option Value} {base : Heap} {C : Cc} {k : Nat} {f : Addr} {fd : FuncData} {ps : List Str} {F : FM} (G : FnM P w K mg base C k f fd ps F) : FnM P w K mg base C k f fd ps (pureF F) := by
  refine ⟨fun xs h q => ?_, fun A outer s H args us vs m h xs Q E hr hgd e0 hb r sr rr p => ?_⟩
  · unfold pureF at q
    split at q
    · refine G.len xs [] fun z => ?_
      rw [z] at q
      exact q rfl
    · exact absurd rfl q
  · unfold pureF at p
    split at p
    · rename_i hx
      refine G.run A outer s H args us vs [] [] xs Q E hr hgd e0 hb r ⟨rfl, List.nodup_nil, fun k o e => by simp at e⟩ (belows_cut rr hx) ?_
      split at p
      · rename_i v hf
        rw [hf]
        exact fun m1 H1 u g1 s1 r1 => p m H1 u (nil_go g1) (nil_sr g1 sr) (nil_vr (by rw [s1.len]; rfl) r1)
      · rename_i x hf
        rw [hf]
        intro m1 H1 cls d g1 s1 xr
        refine p m H1 cls d (nil_go g1) (nil_sr g1 sr) ?_
        obtain ⟨x1, x2⟩ := xr
        refine ⟨x1, ?_⟩
        revert x2
        cases x.fld with
        | none => exact fun x2 => x2
        | some v =>
          rintro ⟨dd, u, e, n, q, rv⟩
          refine ⟨dd, u, e, fun z => ?_, q, nil_vr (by rw [s1.len]; rfl) rv⟩
          obtain ⟨j, ej⟩ := List.mem_iff_getElem?.mp z
          have hj : j < h.length := by rw [← sr.len]; exact (List.getElem?_eq_some_iff.mp ej).1
          obtain ⟨a, e1, oa⟩ := (nil_sr g1 sr).obj j h[j] (List.getElem?_eq_getElem hj)
          rw [ej] at e1; cases e1
          cases hh : h[j] with
          | lst xs => rw [hh] at oa; obtain ⟨vs, q1, _⟩ := oa; rw [q] at q1; cases q1
          | gone => rw [hh] at oa; obtain ⟨ob, vs, q1⟩ := oa; rw [q] at q1; cases q1
      · exact p.elim
    · exact p.elim

theorem sr_noxd {K : PySem.W.Frag} {m : List Addr} {H : Hp} {h : IH} {d : Addr} {ps : List (Str × V)} (s : SR K m H h) (e : H d = some (.xd ps)) : d ∉ m := fun z => by
  obtain ⟨j, ej⟩ := List.mem_iff_getElem?.mp z
  have hj : j < h.length := by rw [← s.len]; exact (List.getElem?_eq_some_iff.mp ej).1
  obtain ⟨a, e1, oa⟩ := s.obj j h[j] (List.getElem?_eq_getElem hj)
  rw [ej] at e1; cases e1
  cases hh : h[j] with
  | lst xs => rw [hh] at oa; obtain ⟨vs, q1, _⟩ := oa; rw [e] at q1; cases q1
  | gone => rw [hh] at oa; obtain ⟨ob, vs, q1⟩ := oa; rw [e] at q1; cases q1
theorem xr_to {C : Cc} {K : PySem.W.Frag} {m m1 : List Addr} {H : Hp} {h : IH} {x : XC} {cls : Value} {d : Option Addr} (s : SR K m H h) (b : fldB 0 x.fld = true) (xr : XRel C K m1 H x cls d) : XRel C K m H x cls d := by
  obtain ⟨x1, x2⟩ := xr
  refine ⟨x1, ?_⟩
  revert x2 b
  cases x.fld with
  | none => exact fun _ x2 => x2
  | some v =>
    rintro b ⟨dd, u, e, n, q, rv⟩
    exact ⟨dd, u, e, sr_noxd s q, q, VR.imp (m := []) (fun _ _ z => by simp at z) (fun _ _ t => t) (fun _ _ t => t) v u (VR.cut (m' := m1) (n := 0) (fun _ hk => absurd hk (Nat.not_lt_zero _)) v u rv b)⟩
theorem vr_to {K : PySem.W.Frag} {m m1 : List Addr} {H : Hp} {v : IV} {u : V} (r : VR K m1 H v u) (b : below 0 v = true) : VR K m H v u :=
  VR.imp (m := []) (fun _ _ z => by simp at z) (fun _ _ t => t) (fun _ _ t => t) v u (VR.cut (m' := m1) (n := 0) (fun _ hk => absurd hk (Nat.not_lt_zero _)) v u r b)
theorem vrs_to {K : PySem.W.Frag} {m m1 : List Addr} {H : Hp} {v : List IV} {u : List V} (r : VRs K m1 H v u) (b : belows 0 v = true) : VRs K m H v u :=
  VRs.imp (m := []) (fun _ _ z => by simp at z) (fun _ _ t => t) (fun _ _ t => t) v u (VRs.cut (m' := m1) (n := 0) (fun _ hk => absurd hk (Nat.not_lt_zero _)) v u r b)
/-- called with values; what it tells is a new list, to be written -/
def newF (F : FM) : FM := fun vs h => if belows 0 vs = true then match F vs [] with
    | .ok (.ref 0) [.lst zs] => if belows 0 zs = true then .ok (.ref h.length) (h ++ [.lst zs]) else .bad
    | .exc x [] => if fldB 0 x.fld = true then .exc x h else .bad
    | _ => .bad
  else .bad
/-- called with one list of the small heap, ahead of values -/
def cellF (F : FM) : FM := fun vs h => match vs with
  | .ref k :: ws => match h[k]? with
    | some (.lst xs) => if belows 0 ws = true ∧ belows 0 xs = true then match F (.ref 0 :: ws) [.lst xs] with
      | .ok v [.lst ys] => if below 0 v = true ∧ belows 0 ys = true then .ok v (h.set k (.lst ys)) else .bad
      | .ok (.ref 1) [.lst ys, .lst zs] => if belows 0 ys = true ∧ belows 0 zs = true then .ok (.ref h.length) (h.set k (.lst ys) ++ [.lst zs]) else .bad
      | .exc x [.lst ys] => if belows 0 ys = true ∧ fldB 0 x.fld = true then .exc x (h.set k (.lst ys)) else .bad
      | _ => .bad
      else .bad
    | _ => .bad
  | _ => .bad
theorem len1 {m : List Addr} (h : m.length = 1) {a : Addr} (e : m[0]? = some a) : m = [a] := by
  match m, h, e with
  | [b], _, e => simpa using e
theorem len2 {m : List Addr} (h : m.length = 2) {a b : Addr} (e : m[0]? = some a) (e2 : m[1]? = some b) : m = [a, b] := by
  match m, h, e, e2 with
  | [c, d], _, e, e2 => simp at e e2; rw [e, e2]
theorem FnM.new {P : Program} {w : World} {K : PySem.W.Frag} {mg : Str → Option Value} {base : Heap} {C : Cc} {k : Nat} {f : Addr} {fd : FuncData} {ps : List Str} {F : FM} (G : FnM P w K mg base C k f fd ps F) : FnM P w K mg base C k f fd ps (newF F) := by
  refine ⟨fun xs h q => ?_, fun A outer s H args us vs m h xs Q E hr hgd e0 hb r sr rr p => ?_⟩
  · unfold newF at q
    split at q
    · refine G.len xs [] fun z => ?_
      rw [z] at q
      exact q rfl
    · exact absurd rfl q
  · unfold newF at p
    split at p
    · rename_i hx
      refine G.run A outer s H args us vs [] [] xs Q E hr hgd e0 hb r ⟨rfl, List.nodup_nil, fun k o e => by simp at e⟩ (belows_cut rr hx) ?_
      split at p
      · rename_i zs hf
        split at p
        · rename_i hz
          rw [hf]
          intro m1 H1 u g1 s1 r1
          obtain ⟨a, vs', e1, q1, q2⟩ := s1.get (k := 0) rfl
          have hm := len1 (by rw [s1.len]; rfl) e1
          have ra : u = .ref a := by
            have r1 : VR K m1 H1 (.ref 0) u := r1
            simp only [VR] at r1
            obtain ⟨a', e2, rfl⟩ := r1
            rw [e1] at e2; cases e2; rfl
          subst ra
          have h0 : H a = none := (g1.new a (List.mem_of_getElem? e1)).resolve_left (by simp)
          have s2 := nil_sr g1 sr
          have na : a ∉ m := sr.fresh h0
          refine p (m ++ [a]) H1 (.ref a) (Go.take q1 na (nil_go g1) h0) (s2.take q1 na (vrs_to q2 hz)) ?_
          show VR K (m ++ [a]) H1 (.ref h.length) (.ref a)
          simp only [VR]
          exact ⟨a, by rw [← sr.len]; simp, rfl⟩
        · exact p.elim
      · rename_i x hf
        split at p
        · rename_i hb'
          rw [hf]
          exact fun m1 H1 cls d g1 s1 xr => p m H1 cls d (nil_go g1) (nil_sr g1 sr) (xr_to (nil_sr g1 sr) hb' xr)
        · exact p.elim
      · exact p.elim
    · exact p.elim
theorem FnM.cell {P : Program} {w : World} {K : PySem.W.Frag} {mg : Str → Option Value} {base : Heap} {C : Cc} {k : Nat} {f : Addr} {fd : FuncData} {ps : List Str} {F : FM} (G : FnM P w K mg base C k f fd ps F) : FnM P w K mg base C k f fd ps (cellF F) := by
  refine ⟨fun xs h q => ?_, fun A outer s H args us vs m h xs Q E hr hgd e0 hb r sr rr p => ?_⟩
  · unfold cellF at q
    split at q
    · rename_i k ws
      split at q
      · rename_i xs hk
        split at q
        · have := G.len (.ref 0 :: ws) [.lst xs] fun z => by rw [z] at q; exact q rfl
          rw [List.length_cons] at this ⊢
          exact this
        · exact absurd rfl q
      · exact absurd rfl q
    · exact absurd rfl q
  · unfold cellF at p
    split at p
    · rename_i j ws
      split at p
      · rename_i xs hk
        split at p
        · rename_i hx
          simp only [VRs] at rr
          obtain ⟨v0, vr, rfl, r0, r1⟩ := rr
          obtain ⟨a, ks, rfl, ea, qa, ra⟩ := lst_at sr r0 hk
          have jl : j < h.length := (List.getElem?_eq_some_iff.mp hk).1
          have ma : a ∈ m := List.mem_of_getElem? ea
          have s0 : SR K [a] H [.lst xs] := ⟨rfl, by simp, fun i o e => by
            cases i with
            | zero => cases e; exact ⟨a, rfl, ks, qa, vrs_to ra hx.2⟩
            | succ i => simp at e⟩
          have rr0 : VRs K [a] H (.ref 0 :: ws) (.ref a :: vr) := by
            simp only [VRs]
            exact ⟨.ref a, vr, rfl, by simp only [VR]; exact ⟨a, rfl, rfl⟩, vrs_to r1 hx.1⟩
          have go1 : ∀ {m1 H1}, Go K [a] H m1 H1 → Go K m H m H1 := fun g => ⟨fun _ _ e => e, fun _ e => .inl e, fun b o e n => g.fr b o e (by intro z; simp at z; subst z; exact n ma), g.tup, g.frz⟩
          have sr1 : ∀ {m1 : List Addr} {H1 : Hp} {ys us}, Go K [a] H m1 H1 → H1 a = some (.lst us) → VRs K m1 H1 ys us → belows 0 ys = true → SR K m H1 (h.set j (.lst ys)) := fun {m1 H1 ys us} g q1 q2 hy => ⟨by rw [List.length_set]; exact sr.len, sr.nd, fun i o e => by
            by_cases hi : j = i
            · subst hi
              rw [List.getElem?_set_self jl] at e; cases e
              exact ⟨a, ea, us, q1, vrs_to q2 hy⟩
            · rw [List.getElem?_set_ne hi] at e
              obtain ⟨b, eb, ob⟩ := sr.obj i o e
              have nb : b ∉ [a] := fun z => hi (by
                simp at z
                subst z
                exact (List.getElem_inj sr.nd (h₀ := (List.getElem?_eq_some_iff.mp ea).1) (h₁ := (List.getElem?_eq_some_iff.mp eb).1)).mp (by rw [(List.getElem?_eq_some_iff.mp ea).2, (List.getElem?_eq_some_iff.mp eb).2]))
              exact ⟨b, eb, OR.mono (go1 g) (fun u z => g.fr b u z nb) ob⟩⟩
          refine G.run A outer s H args us (.ref a :: vr) [a] [.lst xs] (.ref 0 :: ws) Q E hr hgd e0 hb r s0 rr0 ?_
          split at p
          · rename_i v ys hf
            split at p
            · rename_i hv
              rw [hf]
              intro m1 H1 u g1 s1 r1
              obtain ⟨b, us', e1, q1, q2⟩ := s1.get (k := 0) rfl
              have := g1.pre 0 a rfl
              rw [e1] at this; cases this
              exact p m H1 u (go1 g1) (sr1 g1 q1 q2 hv.2) (vr_to r1 hv.1)
            · exact p.elim
          · rename_i ys zs hf
            split at p
            · rename_i hv
              rw [hf]
              intro m1 H1 u g1 s1 r1
              obtain ⟨b, us', e1, q1, q2⟩ := s1.get (k := 0) rfl
              have := g1.pre 0 a rfl
              rw [e1] at this; cases this
              obtain ⟨c, us2, e2, q3, q4⟩ := s1.get (k := 1) rfl
              have hm := len2 (by rw [s1.len]; rfl) e1 e2
              have ru : u = .ref c := by
                have r1 : VR K m1 H1 (.ref 1) u := r1
                simp only [VR] at r1
                obtain ⟨a', e3, rfl⟩ := r1
                rw [e2] at e3; cases e3; rfl
              subst ru
              have nac : c ∉ [a] := fun z => by
                have nd := s1.nd
                rw [hm] at nd
                simp at z
                subst z
                simp at nd
              have h0 : H c = none := (g1.new c (List.mem_of_getElem? e2)).resolve_left nac
              have nc : c ∉ m := sr.fresh h0
              have s2 := sr1 g1 q1 q2 hv.1
              refine p (m ++ [c]) H1 (.ref c) (Go.take q3 nc (go1 g1) h0) (s2.take q3 nc (vrs_to q4 hv.2)) ?_
              show VR K (m ++ [c]) H1 (.ref h.length) (.ref c)
              simp only [VR]
              exact ⟨c, by rw [← sr.len]; simp, rfl⟩
            · exact p.elim
          · rename_i x ys hf
            split at p
            · rename_i hv
              rw [hf]
              intro m1 H1 cls d g1 s1 xr
              obtain ⟨b, us', e1, q1, q2⟩ := s1.get (k := 0) rfl
              have := g1.pre 0 a rfl
              rw [e1] at this; cases this
              have s2 := sr1 g1 q1 q2 hv.1
              exact p m H1 cls d (go1 g1) s2 (xr_to s2 hv.2 xr)
            · exact p.elim
          · exact p.elim
        · exact p.elim
      · exact p.elim
    · exact p.elim

/-! ### the law's end -/
open PySem.Spec PyProof.Rows in
theorem law_callM {P : Program} {w : World} {K : PySem.W.Frag} {mg mb : Str → Option Value} {C : Cc} {k : Nat} {fa a : Addr} {fd : FuncData} {x : Str} {F : FM} {s₁ : Shared} {vs : List Value} {ns : List Int}
    (KX : K.In s₁.heap) (hns : s₁.heap.Ns mainGlobals mg) (hb : s₁.heap.Ns builtinsNs mb) (hbb : ∀ x : Str, x ≠ "__name__" → mb x = bootBuiltins x) (hlim : s₁.heap.NoLimit) (hg : s₁.gens = #[])
    (ha : s₁.heap.get? a = some { cls := .type "list", data := .seq vs.toArray }) (hi : IntsAre vs ns) (hl : ns.length ≤ sizeLine) (hr : Room k callerA)
    (hF : ∀ base : Heap, K.In base → base.Ns mainGlobals mg → FnM P w K mg base C k fa fd [x] F) (hbind : ∀ (s : Shared) (u : Value), BindsTo s fd ⟨[u], []⟩ [(x, u)])
    (hlaw : ∃ h', F [.fz (ns.map .int)] [] = .ok (.bl true) h') :
    codeAny (model P w) callerA (.call (.ref fa) ⟨[.ref a], []⟩) (fun r s' => r = .ok (.ret (.bool true)) ∧ OldK s₁.heap s'.heap ∧ s'.os = s₁.os ∧ AllBare s'.gens) s₁ := by
  have rv := vals_ints hi
  have lenV := hi.length
  have core : ∀ H : Hp, Only H → SqF K H a (ns.map V.int) → HOk P w H s₁.heap → (∀ b, H b ≠ none → b = a) → (H a ≠ none → K.lookup a = none) →
      codeAny (model P w) callerA (.call (.ref fa) ⟨[.ref a], []⟩) (fun r s' => r = .ok (.ret (.bool true)) ∧ OldK s₁.heap s'.heap ∧ s'.os = s₁.os ∧ AllBare s'.gens) s₁ := by
    intro H hO hS hok hA hK
    have base_of : ∀ {b : Addr} {o : Obj}, s₁.heap.get? b = some o → H b = none → (hidT s₁.heap H).get? b = some o := fun e n => hidT_get e n
    have noA : ∀ {b : Addr} {o : Obj} {es : Array DictEntry} {ep : Nat}, s₁.heap.get? b = some o → o.data = .dict es ep → H b = none := fun {b o es ep} e d => by
      cases q : H b with
      | none => rfl
      | some u =>
        have e' : b = a := hA b (by rw [q]; simp)
        subst e'
        rw [ha] at e; cases e
        have d' : Data.seq vs.toArray _ = Data.dict es ep := d
        cases d'
    have nsK : ∀ {b : Addr} {m : Str → Option Value}, s₁.heap.Ns b m → (hidT s₁.heap H).Ns b m := fun {b m} ⟨o, es, ep, e, d, r⟩ => ⟨o, es, ep, base_of e (noA e d), d, r⟩
    have hKb : K.In (hidT s₁.heap H) := fun b o e => base_of (KX b o e) (by
      cases q : H b with
      | none => rfl
      | some u =>
        have e' : b = a := hA b (by rw [q]; simp)
        subst e'
        rw [hK (by rw [q]; simp)] at e; cases e)
    have hM : Mod K mg (hidT s₁.heap H) := ⟨hKb, nsK hns, ⟨mb, nsK hb, hbb⟩, let ⟨mc, h1, h2⟩ := hlim; ⟨mc, nsK h1, h2⟩⟩
    have e0 : Env0 P w K mg (hidT s₁.heap H) callerA [] s₁ H := ⟨rfl, hM, fun b o e => of_hidT e, Nat.le_of_eq (hidT_size _ _), trivial, fun b hb => absurd (show b ∈ ([] : List Addr) from hb) (by simp), hok, .of_eq hg⟩
    obtain ⟨h', hlw⟩ := hlaw
    have sr : SR K [] H [] := ⟨rfl, List.nodup_nil, fun k o e => by simp at e⟩
    refine codeAny_mono ((hF _ hKb (nsK hns)).run callerA [] s₁ H ⟨[.ref a], []⟩ [.ref a] [.ref a] [] [] [.fz (ns.map .int)] (fun v _ => v = .bl true) (fun _ _ _ => False) hr rfl e0 (hbind s₁ (.ref a)) (.cons rfl .nil) sr ?_ ?_) fun r s' h => ?_
    · simp only [VRs, VR]
      exact ⟨.ref a, [], rfl, ⟨a, _, rfl, hS, VRs.of_ints ns⟩, rfl⟩
    · rw [hlw]
      intro m1 H1 v g1 s1 r1
      simpa only [rV, VR] using r1
    cases r with
    | error e =>
      obtain ⟨_, _, _, _, _, _, _, _, _, _, _, _, z⟩ := h
      exact z.elim
    | ok fl =>
      cases fl with
      | next => exact False.elim h
      | brk => exact False.elim h
      | cont => exact False.elim h
      | ret u =>
        obtain ⟨v, H', os, bare, un, hok', r', q⟩ := h
        have q' : v = .bl true := q
        subst q'
        obtain rfl : u = Value.bool true := r'
        refine ⟨rfl, OldK.of_keep fun b o e => ?_, os, bare⟩
        cases q : H b with
        | none => exact un.keep b o e q (by intro z; exact absurd (show b ∈ ([] : List Addr) from z) (by simp)) (by simp)
        | some u =>
          rcases hO b with z | ⟨ob, xs, z⟩
          · rw [q] at z; cases z
          · have z2 := un.frzs b ob _ z
            obtain ⟨e1, _⟩ := hok b _ z
            obtain ⟨e2, _⟩ := hok' b _ z2
            rw [e] at e1; cases e1
            exact e2
  cases hk : K.lookup a with
  | some o =>
    have e := KX a o hk
    rw [ha] at e
    cases e
    refine core (fun _ => none) (fun _ => .inl rfl) (.inr ⟨vs.toArray, _, hk, by rw [List.size_toArray, lenV]; exact hl, by simpa using rv⟩) (fun b u z => by have z' : (none : Option HO) = some u := z; cases z') (fun b z => absurd rfl z) fun z => absurd rfl z
  | none =>
    refine core (fun b => if b = a then some (.frz { cls := .type "list", data := .seq vs.toArray } (.lst (ns.map V.int))) else none) (fun b => ?_) (.inl ⟨{ cls := .type "list", data := .seq vs.toArray }, if_pos rfl⟩) (fun b u z => ?_) (fun b z => ?_) fun _ => hk
    · by_cases hb : b = a
      · exact .inr ⟨_, _, if_pos hb⟩
      · exact .inl (if_neg hb)
    · by_cases hb : b = a
      · have z' := (if_pos hb).symm.trans z
        cases z'
        subst hb
        exact ⟨ha, by rw [List.length_map]; exact hl, vs, _, rv, ha⟩
      · have z' := (if_neg hb).symm.trans z
        cases z'
    · by_cases hb : b = a
      · exact hb
      · exact absurd (if_neg hb) z
open PySem.Spec PyProof.Rows in
theorem walk_M {l : PySem.W.OpenLaw} {k : Nat} {q : Program} {loose : List Str} {XP : (Str → Option Value) → Heap → Prop} {YP : World → Heap → Prop} {d : DefRec} {K : Params → PySem.W.Frag} {C : World → Cc} {F : FM} {x : Str}
    (hn : l.most = some 63) (hdf : d.params.defaults = []) (hr : Room k callerA)
    (hY : ∀ (w : World) (h : Heap), YP w h → (K w.params).In h)
    (hF : ∀ (w : World) (mg : Str → Option Value) (fa : Addr) (h : Heap), (K w.params).In h → h.Ns mainGlobals mg → mg d.name = some (.ref fa) →
      ∃ (C : Cc) (fd : FuncData), (∀ (s : Shared) (u : Value), BindsTo s fd ⟨[u], []⟩ [(x, u)]) ∧
        ∀ base : Heap, (K w.params).In base → base.Ns mainGlobals mg → FnM l.prog w (K w.params) mg base C k fa fd [x] F)
    (hlaw : ∀ ns : List Int, ns.length ≤ 63 → (∀ z ∈ ns, Builtin.Int.intBits z ≤ 1048576) → ∃ h', F [.fz (ns.map .int)] [] = .ok (.bl true) h') :
    PySem.W.WalkO q loose XP YP l.row.toRowW d [] (fun f vs => PySem.call f vs) := by
  refine Att.attach_callB hn hdf fun w s₀ s₁ mg mb fa o pm cd doc a vs ns G Y ho hd hcd hmg hobj hints hlen hbits hg => ?_
  have KX := hY w _ Y
  obtain ⟨C, fd, hb, hF⟩ := hF w mg fa _ KX G.T.g hmg
  exact law_callM KX G.T.g G.T.b G.T.builtins G.T.nolimit hg hobj hints (Nat.le_trans hlen (by decide)) hr hF hb (hlaw ns hlen hbits)
end MM
/-! M8: rules in short -/
namespace MM
open PySem L2
theorem hu0 {A : Around} {k : Nat} (hr : Room k A) : A.units < cLine := by have := hr.un; omega
theorem hu64 {A : Around} {k : Nat} (hr : Room k A) : A.units + 64 < cLine := by have := hr.un; omega
theorem hu65 {A : Around} {k : Nat} (hr : Room k A) : A.units + 65 < cLine := by have := hr.un; omega
theorem hu80 {A : Around} {k : Nat} (hr : Room k A) : A.units + 80 < cLine := by have := hr.un; omega
def iTupV (f : EM) : IEnv → IH → R (List IV) := fun env h => (f env h).bind fun x h1 => match x with
  | .tup xs => .ok xs h1
  | _ => .bad
theorem blk_of {X : Cx} (N : List Str) (sc : Scope) {scope : Scope} (own : List (Str × Nat)) (hN : X.N = N) (hs : X.env.scope = sc) (ok : BlkOk N sc scope own) : BlkOk X.N X.env.scope scope own := by
  rw [hN, hs]
  exact ok
section
variable {X : Cx} {C : Cc} {W : WX}
theorem m_gint {x : Str} {i : Int} {pos : Pos} (hg : Gl X x) (hm : ∃ t, X.mg x = some (.int i t)) (hd : (x == ("__debug__" : Str)) = false := by decide +kernel) : PE X (.Name x pos) (tE C X.K W (eK (.int i))) := by
  obtain ⟨t, hm⟩ := hm
  exact m_k (pe_glob (v := .int i) hg hm ⟨t, rfl⟩ hd) fun _ _ => by simp only [VR]
end
end MM
/-! M9: more rules -/
namespace MM
open PySem L2
section
open PySem.Spec PyProof.Rows
variable {X : Cx}
def tTupRgN (te : L2.St → Hp → (Int → Int → Hp → Prop) → Prop) : TE := fun σ H Q => te σ H fun a b H1 => RgOk a b ∧ ∀ q ob, H1 q = none → ob.dict = none → Q (.ref q) (upd H1 q (.frz ob (.tup (rgV a b))))
theorem pe_tupRgN {e : Expr} {te : L2.St → Hp → (Int → Int → Hp → Prop) → Prop} {p pos : Pos} (hc : X.calm = true) (hg : Gl X "tuple") (hm : X.mg "tuple" = none) (he : PRg X e te) (na : starEach [e] X.env = (false, eval e X.env) :: starEach [] X.env) : PE X (.Call (.Name "tuple" p) [e] [] pos) (tTupRgN te) := by
  refine ⟨fun pins s σ H Q I h => ?_⟩
  refine Call_ (ld_blt (u := .type "tuple") I hg hm (by decide +kernel) (PyProof.Rows.callWith_type1 (args_cons (thn (he pins s σ H _ I h) fun x s1 ⟨r, a, b, t, u, v, H1, ex, hr, I1, ok, q⟩ => args_nil ?_) na) na))
  subst ex
  obtain ⟨b1, b2, b3, b4, b5⟩ := ok
  refine call_tuple_range (n := (b - a).toNat) (I1.ok.hd hc) hr (small_one b1 b2 b3 b4) (rangeSize_nat a b) b5 fun h' tk acc hk hi => ?_
  have I2 : L2.Inv X pins σ H1 { s1 with heap := h', toks := tk } := I1.kept hk
  refine ⟨.ref h'.objs.size, upd H1 h'.objs.size (.frz { cls := .type "tuple", data := .seq acc } (.tup (rgV a b))), I2.laid (t' := tk) (fun c o e => Heap.get?_push_of_some _ e) (Nat.le_refl _) ⟨Heap.get?_push_size _ rfl, ?_, acc.toList, vals_rg hi, ?_⟩, rfl, q _ _ (I2.hok.fresh (Nat.le_refl _)) rfl⟩
  · rw [rgV_length, sizeLine_eq]; omega
  · rw [Array.toArray_toList]; exact IsTup.new _ _
end
section
variable {X : Cx} {C : Cc} {W : WX}
theorem m_tupleRg {n : Expr} {p p2 pos pos2 : Pos} {f : EM} (hc : X.calm = true) (hg : Gl X "tuple") (hm : X.mg "tuple" = none) (hg2 : Gl X "range") (hm2 : X.mg "range" = none) (he : PE X n (tE C X.K W f)) (hs : starEach [n] X.env = (false, eval n X.env) :: starEach [] X.env)
    (hs2 : starEach [.Call (.Name "range" p2) [n] [] pos2] X.env = (false, eval (.Call (.Name "range" p2) [n] [] pos2) X.env) :: starEach [] X.env) :
    PE X (.Call (.Name "tuple" p) [.Call (.Name "range" p2) [n] [] pos2] [] pos) (tE C X.K W (eTuple (lRg1 f))) :=
  pe_weak (pe_tupRgN hc hg hm (prg_1 hg2 hm2 he hs) hs2) fun σ H Q ⟨m, env, h, er, sr, p⟩ => ⟨m, env, h, er, sr, by
    unfold eTuple lRg1 at p
    have p' : Post C X.K W σ m H (rV X.K) Q ((f env h).bind fun x h1 => R.bind (match x with
      | .int n => if rgOk 0 n = true then .ok (lRange 0 n) h1 else .bad
      | _ => .bad) fun xs h2 => .ok (.tup xs) h2) := by
      cases hf : f env h with
      | ok x h1 => rw [hf] at p; exact p
      | exc z h1 => rw [hf] at p; exact p
      | bad => rw [hf] at p; exact p
    exact tg_run p' fun m1 H1 x h1 u g1 s1 r1 p1 => by
      cases x <;> first | exact p1.elim | skip
      rename_i i
      simp only [rV, VR] at r1
      subst r1
      dsimp only at p1
      split at p1
      · rename_i hk
        refine ⟨i, rfl, (by unfold rgOk at hk; have hk' := of_decide_eq_true hk; exact hk'), fun q ob hq hd => post_tup s1 p1 ?_ hq hd⟩
        unfold lRange rgV
        have e1 : ((List.range (i - 0).toNat).map fun j => IV.int (0 + (j : Nat))) = ((List.range (i - 0).toNat).map fun j => (0 : Int) + (j : Nat)).map IV.int := by rw [List.map_map]; rfl
        have e2 : ((List.range (i - 0).toNat).map fun j => V.int (0 + (j : Nat))) = ((List.range (i - 0).toNat).map fun j => (0 : Int) + (j : Nat)).map V.int := by rw [List.map_map]; rfl
        rw [e1, e2]
        exact VRs.of_ints _
      · exact p1.elim⟩
end
end MM
/-! M10: tuples: index, min, max; sorted data; reverse; enumerate of a list -/
namespace MM
open PySem L2 PySem.Spec
section
variable {X : Cx} {C : Cc} {W : WX}
/-! ### list.reverse -/
def mReverse : IV → List IV → IH → R IV
  | .ref k, [], h => match h[k]? with
    | some (.lst xs) => .ok .non (h.set k (.lst xs.reverse))
    | _ => .bad
  | _, _, _ => .bad
theorem mm_reverse : MthM X C "list.reverse" mReverse := by
  refine ⟨_, MtR.or mt_reverse mt_reverse, fun W σ m H h x ys u us Q s rx ry p => ?_⟩
  unfold mReverse at p
  split at p
  · split at p
    · rename_i xs hk
      obtain ⟨a, vs, rfl, e, q, rr⟩ := lst_at s rx hk
      simp only [VRs] at ry
      subst ry
      exact .inl ⟨a, vs, rfl, rfl, q, post_set s e q rr.reverse (x := .non) (by simp only [VR]) p⟩
    · exact p.elim
  · exact p.elim

/-! ### tuple.index -/
theorem mt_tindex : MtR X "tuple.index" (fun x xs H Q => ∃ (a : Addr) (ys : List V) (y : V) (j : Nat) (z : V), x = V.ref a ∧ xs = [y] ∧ SqT X.K H a ys ∧ flatV y = true ∧ ys.all flatV = true ∧ ys[j]? = some z ∧ eqV z y = true ∧
    (∀ (m : Nat) (z' : V), m < j → ys[m]? = some z' → eqV z' y = false) ∧ Q (.int (j : Nat)) H) := by
  intro pins s σ H x xs v us Q I rx rxs h
  obtain ⟨a, ys, y, j, z, rfl, rfl, hs, fy, fys, hz, hzj, hno, q⟩ := h
  cases rx
  cases rxs with
  | cons ry rt =>
    rename_i uy ut
    cases rt
    obtain ⟨its, rv, ⟨⟨cls, dd, data, sl⟩, ho, hc, n, hd⟩, hlen⟩ := I.tuple hs
    simp only at hc hd
    subst hc hd
    obtain ⟨u, hu, ru⟩ := rv.get hz
    obtain ⟨hjl, hje⟩ := List.getElem?_eq_some_iff.mp hu
    have hvl := rv.length
    have hj : j < its.toArray.size := by simpa using hjl
    refine call_meets PySem.F.slot_tuple_index ⟨_, ho, rfl⟩ PySem.F.entry_tuple_index (PySem.F.args_tuple_index_2 _ _)
      (TI.tuple_indexAt a its.toArray n dd sl uy (eqU y) j hj ?_ ?_) ⟨ho, fun u' hu' => mem_eqAt ry fy rv fys u' (by simpa using hu'), ?_⟩
    · have e1 : its.toArray[j] = u := by simpa using hje
      rw [e1, eqU_of ru (flat_at fys hz)]
      exact hzj
    · intro m hm hmj
      have hml : m < its.length := by simpa using hm
      have hmy : m < ys.length := by omega
      have hy' : ys[m]? = some ys[m] := List.getElem?_eq_getElem hmy
      obtain ⟨u2, hu2, ru2⟩ := rv.get hy'
      obtain ⟨_, hme⟩ := List.getElem?_eq_some_iff.mp hu2
      have e1 : its.toArray[m] = u2 := by simpa using hme
      rw [e1, eqU_of ru2 (flat_at fys hy')]
      exact hno m _ hmj hy'
    · exact ⟨.int (j : Nat), H, I.tok _, ⟨_, rfl⟩, q⟩
def tBT (K : PySem.W.Frag) (r : V → List V → Hp → VK → Prop) (to : TE) (t : TA) : TE := fun σ H Q => to σ H fun x H1 => (∃ a xs, x = V.ref a ∧ SqN K H1 a xs) ∧ t σ H1 fun xs H2 => r x xs H2 Q
theorem pe_bmT {o e : Expr} {es : List Expr} {to : TE} {t : TA} {name : Str} {apos cpos : Pos} {id : String} {r : V → List V → Hp → VK → Prop} (pa : PlainAttrs "tuple") (slot : Slot "tuple" name id) (hty : typeOf (.builtin id) = pure (.type "method_descriptor")) (hm : MtR X id r) (ho : PE X o to) (ha : PA X (e :: es) t)
    (hbase : attributeBase o name X.env (eval o X.env) = eval o X.env := by rfl)
    (hfew : ((backTo cpos (starEach (e :: es) X.env)).all (fun x => !x.1) && (backToKw cpos (keywordEach [] X.env)).all (fun x => x.1.isSome)
      && decide ((e :: es).length + ([] : List Keyword).length + (if ([] : List Keyword).isEmpty then 0 else 1) < 30)) = true := by rfl)
    (hline : (apos.endLine == cpos.line) = true := by rfl) (hs : starEach (e :: es) X.env = (false, eval e X.env) :: starEach es X.env := by rfl) (hplain : (backTo cpos (starEach es X.env)).any (·.1) = false := by rfl) :
    PE X (.Call (.Attribute o name apos) (e :: es) [] cpos) (tBT X.K r to t) := by
  refine ⟨fun pins s σ H Q I h => ?_⟩
  refine wpAny_Call_method_late hbase hfew hline rfl (thn (ho.run pins s σ H _ I h) fun v s1 ⟨x, H1, I1, r1, ty, q1⟩ => ?_)
  obtain ⟨a, xs, rfl, sq⟩ := ty
  obtain ⟨ob, e1, e2, e3⟩ := sq.obj I1
  cases r1
  refine ⟨"tuple", id, pa, slot, hty, ⟨ob, e1, e2⟩, fun b e => by cases e; exact ⟨ob, e1, e3⟩, ?_⟩
  have hA := ha.run cpos pins s1 σ H1 _ I1 q1
  rw [hs] at hA ⊢
  refine PySem.Calls.callWith_builtin (by show (false || (backTo cpos (starEach es X.env)).any (·.1)) = false; rw [hplain] <;> rfl) (PySem.Calls.evalArgs_plain ?_)
  exact thn hA fun us s2 ⟨vs, H2, I2, r2, q2⟩ => hm pins s2 σ H2 (.ref a) vs _ us Q I2 rfl r2 q2
/-- t.index(x) of a tuple -/
def eTIx (f : EM) (g : IEnv → IH → R (List IV)) : EM := fun env h => (f env h).bind fun x h1 => match x with
  | .tup xs => (g env h1).bind fun ys h2 => match ys with
    | [y] => if flat y = true ∧ xs.all flat = true then match idxOf y xs with
      | some j => .ok (.int j) h2
      | none => .bad else .bad
    | _ => .bad
  | _ => .bad
theorem m_tix {obj e : Expr} {es : List Expr} {name : Str} {apos pos : Pos} {f : EM} {g : IEnv → IH → R (List IV)} (ho : PE X obj (tE C X.K W f)) (ha : PA X (e :: es) (tA C X.K W g))
    (mk : ∀ {r : V → List V → Hp → VK → Prop} {t : TA} {to : TE}, MtR X "tuple.index" r → PE X obj to → PA X (e :: es) t → PE X (.Call (.Attribute obj name apos) (e :: es) [] pos) (tBT X.K r to t)) :
    PE X (.Call (.Attribute obj name apos) (e :: es) [] pos) (tE C X.K W (eTIx f g)) := by
  refine pe_weak (mk mt_tindex ho ha) fun σ H Q ⟨m, env, h, er, sr, p⟩ => ⟨m, env, h, er, sr, tg_run p fun m1 H1 x hh u g1 s1 r1 p1 => ?_⟩
  cases x <;> first | exact p1.elim | skip
  rename_i xs
  have r2 : VR X.K m1 H1 (.tup xs) u := r1
  simp only [VR] at r2
  obtain ⟨a, vs, rfl, t, rr⟩ := r2
  refine ⟨⟨a, vs, rfl, t⟩, m1, env, hh, er.mono g1, s1, tg_run p1 fun m2 H2 ys h2' us g2 s2 r2 p2 => ?_⟩
  split at p2
  · rename_i y
    split at p2
    · rename_i hf
      split at p2
      · rename_i j hj
        obtain ⟨v, rfl, rv⟩ := one_of r2
        obtain ⟨z, h1, h2, h3⟩ := idxOf_get hj
        have rr2 := VRs.mono g2 _ _ rr
        obtain ⟨w, h4, rw'⟩ := rr2.get h1
        have fz : flat z = true := List.all_eq_true.mp hf.2 z (List.mem_of_getElem? h1)
        refine ⟨a, vs, v, j, w, rfl, rfl, (g2.tup _ _ t).sq, flat_of rv hf.1, flats_of rr2 hf.2, h4, by rw [eqF_of rw' rv fz hf.1]; exact h2, fun i w' hi hw => ?_, post_int s2 p2⟩
        have hil : i < xs.length := by
          rw [rr2.length]; exact (List.getElem?_eq_some_iff.mp hw).1
        obtain ⟨w2, h5, r5⟩ := rr2.get (List.getElem?_eq_getElem hil)
        rw [hw] at h5; cases h5
        have f5 : flat xs[i] = true := List.all_eq_true.mp hf.2 _ (List.getElem_mem hil)
        rw [eqF_of r5 rv f5 hf.1]
        exact h3 i _ hi (List.getElem?_eq_getElem hil)
      · exact p2.elim
    · exact p2.elim
  · exact p2.elim

/-! ### min, max of a tuple of ints -/
theorem dpAll_ints {K : PySem.W.Frag} {H : Hp} : ∀ ns : List Int, DpAll K H (ns.map V.int) (ns.map PyData.int)
  | [] => .nil
  | n :: ns => .cons (.int n) (dpAll_ints ns)
theorem alike_ints (ns : List Int) : PySem.W.AlikeAll (ns.map PyData.int) := by
  refine ⟨fun x hx y hy => ?_, fun x hx => ?_⟩
  · obtain ⟨a, _, rfl⟩ := List.mem_map.mp hx
    obtain ⟨b, _, rfl⟩ := List.mem_map.mp hy
    simp [PySem.W.alike]
  · obtain ⟨a, _, rfl⟩ := List.mem_map.mp hx
    intro z; cases z
theorem depth_ints : ∀ ns : List Int, PyData.depthAll (ns.map PyData.int) = 0
  | [] => rfl
  | n :: ns => by
    have ih := depth_ints ns
    simp only [List.map_cons, PyData.depthAll, PyData.depth, ih]
    rfl
theorem foldl_minE : ∀ (ns : List Int) (n : Int), ns.foldl min n = ns.foldl (fun a b => if b < a then b else a) n
  | [], _ => rfl
  | m :: ns, n => by
    rw [List.foldl_cons, List.foldl_cons, foldl_minE ns]
    congr 1
    rw [Int.min_def]
    split <;> split <;> omega
theorem foldl_maxE : ∀ (ns : List Int) (n : Int), ns.foldl max n = ns.foldl (fun a b => if b > a then b else a) n
  | [], _ => rfl
  | m :: ns, n => by
    rw [List.foldl_cons, List.foldl_cons, foldl_maxE ns]
    congr 1
    rw [Int.max_def]
    split <;> split <;> omega
theorem cr_minT (hc : X.calm = true) (hu : X.A.units + 1 < cLine) : CallR X (.builtin "min") (fun vs H Q => ∃ (a : Addr) (n : Int) (ns : List Int), vs = [V.ref a] ∧ SqT X.K H a ((n :: ns).map V.int) ∧ Q (.int (ns.foldl (fun a b => if b < a then b else a) n)) H) := by
  intro pins s σ H vs us Q I r h
  obtain ⟨a, n, ns, rfl, hs, q⟩ := h
  obtain ⟨its, rv, pt, hz⟩ := I.tuple hs
  rw [Vals.ref1 r]
  obtain ⟨as, rd⟩ := Dp.readsAll I _ _ _ (dpAll_ints (n :: ns)) rv
  refine PySem.W.min_tuple_data (vs := its.toArray) (x := .int n) (xs := ns.map .int) (I.ok.hd hc) pt rd (alike_ints (n :: ns)) (by rw [show (PyData.int n :: ns.map PyData.int) = (n :: ns).map PyData.int from rfl, depth_ints]; omega) fun i v h' tk bs hv hr hk => ?_
  rw [PySem.W.minD_ints, foldl_minE] at hr
  cases hr
  exact ⟨.int _, H, I.kept (t' := tk) hk, ⟨_, rfl⟩, q⟩
theorem cr_maxT (hc : X.calm = true) (hu : X.A.units + 1 < cLine) : CallR X (.builtin "max") (fun vs H Q => ∃ (a : Addr) (n : Int) (ns : List Int), vs = [V.ref a] ∧ SqT X.K H a ((n :: ns).map V.int) ∧ Q (.int (ns.foldl (fun a b => if b > a then b else a) n)) H) := by
  intro pins s σ H vs us Q I r h
  obtain ⟨a, n, ns, rfl, hs, q⟩ := h
  obtain ⟨its, rv, pt, hz⟩ := I.tuple hs
  rw [Vals.ref1 r]
  obtain ⟨as, rd⟩ := Dp.readsAll I _ _ _ (dpAll_ints (n :: ns)) rv
  refine PySem.W.max_tuple_data (vs := its.toArray) (x := .int n) (xs := ns.map .int) (I.ok.hd hc) pt rd (alike_ints (n :: ns)) (by rw [show (PyData.int n :: ns.map PyData.int) = (n :: ns).map PyData.int from rfl, depth_ints]; omega) fun i v h' tk bs hv hr hk => ?_
  rw [PySem.W.maxD_ints, foldl_maxE] at hr
  cases hr
  exact ⟨.int _, H, I.kept (t' := tk) hk, ⟨_, rfl⟩, q⟩
def qTV (f : EM) : IEnv → IH → R (List IV) := fun env h => (f env h).bind fun x h1 => match x with
  | .tup xs => .ok xs h1
  | _ => .bad
theorem intsT {m : List Addr} {H : Hp} {xs : List IV} {ns : List Int} {u : V} (hn : intsOf xs = some ns) (r : VR X.K m H (.tup xs) u) : ∃ a, u = .ref a ∧ SqT X.K H a (ns.map V.int) := by
  simp only [VR] at r
  obtain ⟨a, vs, rfl, t, rr⟩ := r
  rw [intsOf_map hn] at rr
  rw [VRs.ints rr] at t
  exact ⟨a, rfl, t.sq⟩
theorem m_minT {e : Expr} {p pos : Pos} {f : EM} (hu : X.A.units + 64 < cLine) (hc : X.calm = true) (hg : Gl X "min") (hm : X.mg "min" = none) (he : PE X e (tE C X.K W f)) (hs : starEach (e :: []) X.env = (false, eval e X.env) :: starEach [] X.env) (hp : (backTo pos (starEach [] X.env)).any (·.1) = false) :
    PE X (.Call (.Name "min" p) [e] [] pos) (tE C X.K W (eInts minL (qTV f))) :=
  pe_weak (pe_callB (cr_minT hc (by omega)) hg hm (by decide +kernel) (pa_cons he pa_nil hs) (by decide) (by decide) hs hp) fun σ H Q ⟨m, env, h, er, sr, p⟩ => ⟨m, env, h, er, sr, by
    unfold eInts qTV at p
    cases hf : f env h with
    | bad => rw [hf] at p; exact p.elim
    | exc z h1 => rw [hf] at p; exact p
    | ok x h1 =>
      rw [hf] at p
      intro m1 H1 u g1 s1 r1
      have p1 := Post.mono g1 p
      cases x <;> first | exact p.elim | skip
      rename_i xs
      change Post C X.K W σ m1 H1 (rV X.K) Q (match intsOf xs with
        | some ns => match minL ns with
          | some M => .ok (.int M) h1
          | none => .bad
        | none => .bad) at p1
      split at p1
      · rename_i ns hn
        obtain ⟨a, rfl, q⟩ := intsT hn r1
        cases ns with
        | nil => exact p1.elim
        | cons n ns => exact ⟨a, n, ns, rfl, q, post_int s1 p1⟩
      · exact p1.elim⟩
theorem m_maxT {e : Expr} {p pos : Pos} {f : EM} (hu : X.A.units + 64 < cLine) (hc : X.calm = true) (hg : Gl X "max") (hm : X.mg "max" = none) (he : PE X e (tE C X.K W f)) (hs : starEach (e :: []) X.env = (false, eval e X.env) :: starEach [] X.env) (hp : (backTo pos (starEach [] X.env)).any (·.1) = false) :
    PE X (.Call (.Name "max" p) [e] [] pos) (tE C X.K W (eInts maxL (qTV f))) :=
  pe_weak (pe_callB (cr_maxT hc (by omega)) hg hm (by decide +kernel) (pa_cons he pa_nil hs) (by decide) (by decide) hs hp) fun σ H Q ⟨m, env, h, er, sr, p⟩ => ⟨m, env, h, er, sr, by
    unfold eInts qTV at p
    cases hf : f env h with
    | bad => rw [hf] at p; exact p.elim
    | exc z h1 => rw [hf] at p; exact p
    | ok x h1 =>
      rw [hf] at p
      intro m1 H1 u g1 s1 r1
      have p1 := Post.mono g1 p
      cases x <;> first | exact p.elim | skip
      rename_i xs
      change Post C X.K W σ m1 H1 (rV X.K) Q (match intsOf xs with
        | some ns => match maxL ns with
          | some M => .ok (.int M) h1
          | none => .bad
        | none => .bad) at p1
      split at p1
      · rename_i ns hn
        obtain ⟨a, rfl, q⟩ := intsT hn r1
        cases ns with
        | nil => exact p1.elim
        | cons n ns => exact ⟨a, n, ns, rfl, q, post_int s1 p1⟩
      · exact p1.elim⟩
end
end MM
/-! M11: enumerate of a list, sorted data -/
namespace MM
open PySem L2 PySem.Spec PyProof.Rows
/-- a list's items with their numbers, each in a new pair -/
def ItL (K : PySem.W.Frag) (a : Addr) : It :=
  ⟨fun i H => ∃ (xs : List V) (x : V), SqL K H a xs ∧ xs[i]? = some x, fun i H v H' => ∃ T x ob, v = .ref T ∧ H T = none ∧ ob.dict = none ∧ H' = upd H T (.frz ob (.tup [.int (i : Nat), x])) ∧ ∀ xs, SqL K H a xs → xs[i]? = some x, fun i H => ∃ xs : List V, SqL K H a xs ∧ xs.length ≤ i⟩
theorem turn_enumL {P : Program} {w : World} {K : PySem.W.Frag} {elts : List Expr} {kk : Nat} {tpos : Pos} (a e it : Addr) :
    Turn P w K (.Tuple elts kk tpos) (ItL K a) [e, it] e (fun i h => (∃ old, IsEnum h e it ((i : Nat) : Int) old) ∧ h.IsListIter it a i ∧ e ≠ it) where
  mem := by simp
  obj := fun i h st b hb => by
    obtain ⟨⟨old, he⟩, ⟨o, ho, hc, hd⟩, _⟩ := st
    have e' : b = e ∨ b = it := by simpa using hb
    rcases e' with z | z
    · rw [z]; exact ⟨_, he, fun v q => nomatch q⟩
    · rw [z]; exact ⟨o, ho, fun v q => by rw [hd] at q; cases q⟩
  keep := fun i h h' st k => let ⟨⟨old, he⟩, hi, hne⟩ := st; ⟨⟨old, k e (by simp) _ he⟩, hi.at fun o q => k it (by simp) o q, hne⟩
  item := by
    intro X hP hw hK hc i pins s σ H E I hf st hg
    subst hP hw hK
    obtain ⟨⟨old, he⟩, hit, hne⟩ := st
    obtain ⟨xs, x, hq, hx⟩ := hg
    obtain ⟨its, rv, p, hz⟩ := I.list hq
    obtain ⟨u, hu, ru⟩ := rv.get hx
    have hel : e < s.heap.objs.size := Heap.lt_size he
    have hil : it < s.heap.objs.size := by obtain ⟨_, q, _⟩ := hit; exact Heap.lt_size q
    refine wpAny_pyNext_enum_item he hit p.isList (x := u) (by simpa using hu) hne fun h' ho hit' hT hsz hk => ?_
    refine ⟨_, rfl, wpAny_letOwnedTupleGo_enum (s := { s with heap := h', toks := s.toks + 1 }) ho fun h'' he' sb => ?_⟩
    have hT2 : h''.get? s.heap.objs.size = some { cls := .type "tuple", data := .seq #[.int i s.toks, u] } := (sb.2 _ (Nat.ne_of_gt hel)).trans hT
    have new : ObjOk X.prog X.w (upd H s.heap.objs.size (.frz { cls := .type "tuple", data := .seq #[.int i s.toks, u] } (.tup [.int (i : Nat), x]))) h'' s.heap.objs.size (.frz { cls := .type "tuple", data := .seq #[.int i s.toks, u] } (.tup [.int (i : Nat), x])) :=
      ⟨hT2, by show 2 ≤ sizeLine; decide, [.int i s.toks, u], .cons ⟨_, rfl⟩ (.cons ru .nil), ⟨_, hT2, rfl, _, rfl⟩⟩
    have I1 : L2.Inv X pins σ (upd H s.heap.objs.size (.frz { cls := .type "tuple", data := .seq #[.int i s.toks, u] } (.tup [.int (i : Nat), x]))) { s with heap := h'', toks := s.toks + 1 } :=
      I.turnedNew (ch := [e, it]) (fun b ob hb q => (sb.2 b (fun z => hb (by simp [z]))).trans (hk b ob (fun z => hb (by simp [z])) (fun z => hb (by simp [z])) q)) hf (Nat.le_refl _) new
    refine ⟨.ref s.heap.objs.size, _, I1, rfl, ⟨_, x, _, rfl, I.hok.fresh (Nat.le_refl _), rfl, rfl, fun ys hy => by rw [I.list_inj hy hq]; exact hx⟩, ⟨⟨u, ?_⟩, hit'.at fun o q => (sb.2 it (Ne.symm hne)).trans q, hne⟩, fun b hb => ?_⟩
    · have e1 : ((i + 1 : Nat) : Int) = (i : Int) + 1 := by omega
      rw [e1]; exact he'
    · have hb' : b < s.heap.objs.size := by
        have e' : b = e ∨ b = it := by simpa using hb
        rcases e' with z | z
        · rw [z]; exact hel
        · rw [z]; exact hil
      rw [upd_ne (Nat.ne_of_lt hb')]
      exact (hf b hb).1
  done := by
    intro X hP hw hK hc i pins s σ H E I hf st hg
    subst hP hw hK
    obtain ⟨⟨old, he⟩, hit, hne⟩ := st
    obtain ⟨xs, hq, hx⟩ := hg
    obtain ⟨its, rv, p, hz⟩ := I.list hq
    obtain ⟨f0, f1, f2, f3, f4, f5⟩ := hf it (by simp)
    have hl := rv.length
    exact wpAny_pyNext_enum_end (I.ok.hd hc) he hit p.isList (by simp; omega) fun h' eb => ⟨rfl, I.turned (t' := s.toks) (fun b o hb q => eb b o hb q) f0 f1 f3 f4 f5⟩
  self := fun A i s Q E st h => let ⟨⟨_, he⟩, _⟩ := st; wpAny_pyIter_enum he h
def iEnumB (K : PySem.W.Frag) (ta : TA) : TI := fun σ H R => ta σ H fun vs H1 => ∃ a xs, vs = [.ref a] ∧ SqL K H1 a xs ∧ R (ItL K a) H1
theorem pi_enumL {X : Cx} {e : Expr} {ta : TA} {p pos tpos : Pos} {elts : List Expr} {kk : Nat} (hg : Gl X "enumerate") (hm : X.mg "enumerate" = none) (ha : PA X [e] ta) (hs : starEach [e] X.env = [(false, eval e X.env)]) :
    PI X (.Tuple elts kk tpos) (.Call (.Name "enumerate" p) [e] [] pos) (iEnumB X.K ta) := by
  refine ⟨fun pins s σ H R I h => ?_⟩
  refine Call_ (ld_blt (u := .type "enumerate") I hg hm (by decide +kernel) (PyProof.Rows.callWith_type1 (thn (ha.run pos pins s σ H _ I h) fun us s1 ⟨vs, H1, I1, r1, q1⟩ => ?_) hs rfl))
  obtain ⟨a, xs, ex, hq, q⟩ := q1
  subst ex
  cases r1 with
  | cons r rr =>
    cases rr
    cases r
    obtain ⟨its, rv, p', hz⟩ := I1.list hq
    refine call_enumerate_list p'.isList fun h' he hit hsz hk => wpAny_pyIter_enum he ?_
    have I2 : L2.Inv X pins σ H1 { s1 with heap := h' } := I1.kept (t' := s1.toks) hk
    refine ⟨s1.heap.objs.size + 1, [s1.heap.objs.size + 1, s1.heap.objs.size], _, _, H1, rfl, I2, turn_enumL a (s1.heap.objs.size + 1) s1.heap.objs.size, ⟨⟨.none, he⟩, hit, Nat.succ_ne_self _⟩, fun b hb => ?_, q⟩
    have e' : b = s1.heap.objs.size + 1 ∨ b = s1.heap.objs.size := by simpa using hb
    have hle : s1.heap.objs.size ≤ b := by
      rcases e' with z | z
      · rw [z]; exact Nat.le_add_right _ _
      · rw [z]; exact Nat.le_refl _
    exact I1.fpOk hle (I1.hok.fresh hle)
def iEnumL (f : EM) : ItM := fun e h => (f e h).bind fun x h1 => match x with
  | .ref k => match h1[k]? with
    | some (.lst xs) => .ok (enumFrom 0 xs, stands k xs) h1
    | _ => .bad
  | _ => .bad
theorem mi_enumL {X : Cx} {C : Cc} {W : WX} {e : Expr} {f : EM} {p pos tpos : Pos} {elts : List Expr} {kk : Nat} (hg : Gl X "enumerate") (hm : X.mg "enumerate" = none) (he : PE X e (tE C X.K W f)) (hs : starEach [e] X.env = [(false, eval e X.env)]) :
    PI X (.Tuple elts kk tpos) (.Call (.Name "enumerate" p) [e] [] pos) (tIt C X.K W (iEnumL f)) :=
  ⟨fun pins s σ H R I ⟨m, env, h, er, sr, q⟩ => (pi_enumL (elts := elts) (kk := kk) (tpos := tpos) hg hm (m_aCons he m_aNil hs) hs).run pins s σ H R I (by
    refine ⟨m, env, h, er, sr, ?_⟩
    unfold aCons aNil
    have q2 : Post C X.K W σ m H (rI X.K) R ((f env h).bind fun x h1 => match x with
      | .ref k => match h1[k]? with
        | some (.lst xs) => .ok (enumFrom 0 xs, stands k xs) h1
        | _ => .bad
      | _ => .bad) := q
    cases hf : f env h with
    | bad => rw [hf] at q2; exact q2
    | exc z h1 => rw [hf] at q2; exact q2
    | ok x h1 =>
      rw [hf] at q2
      intro m1 H1 us g1 s1 r1
      have q3 := Post.mono g1 q2
      change VRs X.K m1 H1 [x] us at r1
      simp only [VRs] at r1
      obtain ⟨v1, r, rfl, rv, rfl⟩ := r1
      cases x <;> first | exact q2.elim | skip
      rename_i k
      change Post C X.K W σ m1 H1 (rI X.K) R (match h1[k]? with
        | some (.lst xs) => .ok (enumFrom 0 xs, stands k xs) h1
        | _ => .bad) at q3
      split at q3
      · rename_i xs hk
        obtain ⟨a, vs, rfl, e1, qq, rr⟩ := lst_at s1 rv hk
        refine ⟨a, vs, rfl, .of qq, Post.here q3 s1 ?_⟩
        refine ⟨fun H2 => SqL X.K H2 a vs ∨ ∃ ws, SqL X.K H2 a ws ∧ ws.length = vs.length, fun i H2 x H3 => ∃ T u ob, x = .ref T ∧ H2 T = none ∧ ob.dict = none ∧ H3 = upd H2 T (.frz ob (.tup [.int (i : Nat), u])) ∧ ∀ ws, SqL X.K H2 a ws → ws[i]? = some u, ?_, fun m2 H2 h2 g s2 hs => ?_⟩
        · dsimp only
          rw [enumFrom_len, rr.length]
          refine ⟨fun i H hi h => ?_, fun H h => ?_, fun i H x H' hi h y => y⟩
          · rcases h with h | ⟨ws, h, e⟩
            · exact ⟨vs, vs[i], h, List.getElem?_eq_getElem hi⟩
            · exact ⟨ws, ws[i]'(by rw [e]; exact hi), h, List.getElem?_eq_getElem _⟩
          · rcases h with h | ⟨ws, h, e⟩
            · exact ⟨vs, h, Nat.le_refl _⟩
            · exact ⟨ws, h, by rw [e]; exact Nat.le_refl _⟩
        · dsimp only at hs
          unfold stands at hs
          split at hs
          · rename_i ys hy
            have e2 := eqIVs_eq _ _ hs
            subst e2
            obtain ⟨a2, ws, e3, q3, r3⟩ := s2.get hy
            rw [g.pre _ _ e1] at e3; cases e3
            refine ⟨.inr ⟨ws, .of q3, by rw [← r3.length, rr.length]⟩, fun i x H3 hi0 ⟨T, u, ob, x1, x2, x3, x4, hx⟩ => ?_⟩
            subst x1; subst x4
            have hw := hx ws (.of q3)
            have hi : i < ys.length := by rw [r3.length]; exact (List.getElem?_eq_some_iff.mp hw).1
            obtain ⟨v, h5, h6⟩ := r3.get (List.getElem?_eq_getElem hi)
            rw [hw] at h5; cases h5
            refine ⟨_, enumFrom_at ys 0 i _ (List.getElem?_eq_getElem hi), Go.laid x2, s2.laid x2, VR.newTup x2 x3 ?_⟩
            simp only [VRs, VR]
            exact ⟨.int ((0 + i : Nat) : Int), [u], by simp, rfl, u, [], rfl, h6, rfl⟩
          · cases hs
      · exact q3.elim)⟩

/-! ### sorted(list of data) -/
def sortOk (ds : List PyData) : Bool := ds.all (fun d => ds.all fun d' => PySem.W.alike d d') && ds.all (fun d => match d with
  | .tuple (_ :: _) => true
  | _ => false) && decide (ds.length ≤ 2 ^ 20) && ds.all (fun d => decide (d.depth ≤ 60))
def lSortD (f : IEnv → IH → R (List IV)) : IEnv → IH → R (List IV) := fun env h => (f env h).bind fun xs h1 => match optAll (toD h1 66) xs with
  | some ds => if sortOk ds = true then .ok (((xs.zip ds).mergeSort (PySem.W.dataLe false (·.2))).map (·.1)) h1 else .bad
  | none => .bad
theorem each_zip {vs : List V} {its : List Value} (r : Vals vs its) : ∀ {ds : List PyData}, ds.length = vs.length → PySem.W.EachIs (fun v (b : V × PyData) => RelV b.1 v) its (vs.zip ds) := by
  induction r with
  | nil => intro ds h; simp; exact .nil
  | cons r t ih =>
    intro ds h
    cases ds with
    | nil => simp at h
    | cons d ds => exact .cons r (ih (by simpa using h))
theorem each_vals {out : List Value} {L : List (V × PyData)} (e : PySem.W.EachIs (fun v (b : V × PyData) => RelV b.1 v) out L) : Vals (L.map (·.1)) out := by
  induction e with
  | nil => exact .nil
  | cons r t ih => exact .cons r ih
theorem each_reads {h : Heap} : ∀ {its : List Value} {ds : List PyData} {as : List Addr} {vs : List V}, ReadsAll h its ds as → vs.length = ds.length → PySem.W.EachIs (fun v (b : V × PyData) => ∃ as, Reads h v b.2 as) its (vs.zip ds)
  | _, _, _, vs, .nil, _ => by simp; exact .nil
  | _, _, _, [], .cons _ _, h => by simp at h
  | _, _, _, v :: vs, .cons r rs, h => .cons ⟨_, r⟩ (each_reads rs (by simpa using h))
theorem zip_snd {α β : Type} : ∀ {as : List α} {bs : List β}, as.length = bs.length → (as.zip bs).map (·.2) = bs
  | [], [], _ => rfl
  | a :: as, b :: bs, h => by rw [List.zip_cons_cons, List.map_cons, zip_snd (by simpa using h)]
  | [], _ :: _, h => by simp at h
  | _ :: _, [], h => by simp at h
theorem dpAll_len {K : PySem.W.Frag} {H : Hp} : ∀ {vs : List V} {ds : List PyData}, DpAll K H vs ds → vs.length = ds.length
  | _, _, .nil => rfl
  | _, _, .cons _ t => by rw [List.length_cons, List.length_cons, dpAll_len t]
theorem cr_sortedD {X : Cx} (hu : X.A.units + 64 < cLine) : CallR X (.builtin "sorted") (fun vs H Q => ∃ (a : Addr) (xs : List V) (ds : List PyData), vs = [V.ref a] ∧ SqL X.K H a xs ∧ DpAll X.K H xs ds ∧ sortOk ds = true ∧
    ∀ p, H p = none → Q (.ref p) (upd H p (.lst (((xs.zip ds).mergeSort (PySem.W.dataLe false (·.2))).map (·.1))))) := by
  intro pins s σ H vs us Q I r h
  obtain ⟨a, xs, ds, rfl, hs, hd, ok, q⟩ := h
  obtain ⟨its, rv, pl, hz⟩ := I.list hs
  rw [Vals.ref1 r]
  obtain ⟨as, rd⟩ := Dp.readsAll I _ _ _ hd rv
  have hl := dpAll_len hd
  have hm := zip_snd hl
  unfold sortOk at ok
  simp only [Bool.and_eq_true, List.all_eq_true, decide_eq_true_eq] at ok
  obtain ⟨⟨⟨o1, o2⟩, o3⟩, o4⟩ := ok
  have hlz : (xs.zip ds).length = xs.length := by rw [List.length_zip, ← hl, Nat.min_self]
  refine PySem.W.sorted_data (vs := its) (bs := xs.zip ds) (enc := (·.2)) (R := fun v b => RelV b.1 v) pl.isList (each_zip rv hl.symm) (each_reads rd hl) (by rw [hm]; exact o1) (by
      rw [hm]
      refine .inl fun d hd => ?_
      have := o2 d hd
      split at this
      · exact ⟨_, _, rfl⟩
      · cases this) (by rw [hlz]; exact hz) (fun b hb => by
      have := o4 b.2 (by rw [← hm]; exact List.mem_map.mpr ⟨b, hb, rfl⟩)
      omega) fun out ho he => ?_
  have k1 := each_vals he
  obtain ⟨ep, he'⟩ := PyProof.Rows.sortedAll_at s.heap its out.toArray
  have hlen : (((xs.zip ds).mergeSort (PySem.W.dataLe false (·.2))).map (·.1)).length ≤ sizeLine := by
    rw [List.length_map, (List.mergeSort_perm _ _).length_eq, hlz]
    exact hz
  exact ⟨.ref _, upd H (s.heap.objs.size + 1) (.lst _), I.laid (t' := s.toks) (fun _ _ => PyProof.Rows.sortedAll_old) (Nat.le_succ _) ⟨hlen, out, ep, k1, he'⟩, rfl, q _ (I.hok.fresh (Nat.le_succ _))⟩
theorem dpAll_of {K : PySem.W.Frag} {m : List Addr} {H : Hp} {h : IH} (s : SR K m H h) {n : Nat} : ∀ {xs : List IV} {vs : List V} {ds : List PyData}, VRs K m H xs vs → optAll (toD h n) xs = some ds → DpAll K H vs ds
  | [], vs, ds, r, e => by
    simp only [VRs] at r
    subst r
    cases e
    exact .nil
  | x :: xs, vs, ds, r, e => by
    simp only [VRs] at r
    obtain ⟨v, q, rfl, r1, r2⟩ := r
    obtain ⟨y, ys, e1, e2, rfl⟩ := optAll_cons e
    exact .cons (toD_dp s n x v y r1 e1) (dpAll_of s r2 e2)
theorem vrs_all {K : PySem.W.Frag} {m : List Addr} {H : Hp} : ∀ (T : List (IV × V × PyData)), (∀ t ∈ T, VR K m H t.1 t.2.1) → VRs K m H (T.map (·.1)) (T.map (·.2.1))
  | [], _ => by simp only [List.map_nil, VRs]
  | t :: T, h => by
    simp only [List.map_cons, VRs]
    exact ⟨_, _, rfl, h t (List.mem_cons_self ..), vrs_all T fun u hu => h u (List.mem_cons_of_mem _ hu)⟩
theorem zip3 {K : PySem.W.Frag} {m : List Addr} {H : Hp} : ∀ {xs : List IV} {vs : List V} {ds : List PyData}, VRs K m H xs vs → ds.length = xs.length → ∃ T : List (IV × V × PyData), T.map (fun t => (t.1, t.2.2)) = xs.zip ds ∧ T.map (fun t => (t.2.1, t.2.2)) = vs.zip ds ∧ ∀ t ∈ T, VR K m H t.1 t.2.1
  | [], vs, ds, r, e => by
    simp only [VRs] at r
    subst r
    exact ⟨[], by simp, by simp, by simp⟩
  | x :: xs, vs, [], r, e => by simp at e
  | x :: xs, vs, d :: ds, r, e => by
    simp only [VRs] at r
    obtain ⟨v, q, rfl, r1, r2⟩ := r
    obtain ⟨T, t1, t2, t3⟩ := zip3 r2 (ds := ds) (by simpa using e)
    refine ⟨(x, v, d) :: T, by rw [List.map_cons, t1]; rfl, by rw [List.map_cons, t2]; rfl, fun t ht => ?_⟩
    rcases List.mem_cons.mp ht with e | ht
    · rw [e]; exact r1
    · exact t3 t ht
theorem sort_rel {K : PySem.W.Frag} {m : List Addr} {H : Hp} {xs : List IV} {vs : List V} {ds : List PyData} (rr : VRs K m H xs vs) (hl : ds.length = xs.length) :
    VRs K m H (((xs.zip ds).mergeSort (PySem.W.dataLe false (·.2))).map (·.1)) (((vs.zip ds).mergeSort (PySem.W.dataLe false (·.2))).map (·.1)) := by
  obtain ⟨T, t1, t2, t3⟩ := zip3 rr hl
  have a1 := List.map_mergeSort (r := PySem.W.dataLe false (fun t : IV × V × PyData => t.2.2)) (s := PySem.W.dataLe false (fun t : IV × PyData => t.2)) (f := fun t : IV × V × PyData => (t.1, t.2.2)) (l := T) (fun _ _ _ _ => rfl)
  have a2 := List.map_mergeSort (r := PySem.W.dataLe false (fun t : IV × V × PyData => t.2.2)) (s := PySem.W.dataLe false (fun t : V × PyData => t.2)) (f := fun t : IV × V × PyData => (t.2.1, t.2.2)) (l := T) (fun _ _ _ _ => rfl)
  rw [t1] at a1
  rw [t2] at a2
  rw [← a1, ← a2, List.map_map, List.map_map]
  exact vrs_all _ fun t ht => t3 t ((List.mergeSort_perm T _).mem_iff.mp ht)
theorem optAll_len {α β : Type} {f : α → Option β} : ∀ {xs : List α} {ys : List β}, optAll f xs = some ys → ys.length = xs.length
  | [], ys, e => by cases e; rfl
  | x :: xs, ys, e => by
    obtain ⟨y, zs, e1, e2, rfl⟩ := optAll_cons e
    rw [List.length_cons, List.length_cons, optAll_len e2]
theorem m_sortD {X : Cx} {C : Cc} {W : WX} {e : Expr} {p pos : Pos} {f : IEnv → IH → R (List IV)} (hu : X.A.units + 64 < cLine) (hg : Gl X "sorted") (hm : X.mg "sorted" = none) (he : PE X e (tSl C X.K W f)) (hs : starEach (e :: []) X.env = (false, eval e X.env) :: starEach [] X.env) (hp : (backTo pos (starEach [] X.env)).any (·.1) = false) :
    PE X (.Call (.Name "sorted" p) [e] [] pos) (tL C X.K W (lSortD f)) :=
  pe_weak (pe_callB (cr_sortedD hu) hg hm (by decide +kernel) (pa_cons he pa_nil hs) (by decide) (by decide) hs hp) fun σ H Q t => one_l (fun m H h xs a vs Q s q rr p => by
    split at p
    · rename_i ds hd
      split at p
      · rename_i ok
        exact ⟨a, vs, ds, rfl, q, dpAll_of s rr hd, ok, fun l hl => post_lst s p (sort_rel rr (optAll_len hd)) hl⟩
      · exact p.elim
    · exact p.elim) t
theorem blk_of2 {X : Cx} {s : Shared} {H : Hp} {sc0 scope : Scope} {cl : List (Str × Addr)} {D : Addr} {fp : List Addr} (N : List Str) (own : List (Str × Nat)) (hN : X.N = N) (ok : BlkOk N sc0 scope own) :
    BlkOk (X.blk s H sc0 (compEnvC sc0 cl D X.env) fp).N (X.blk s H sc0 (compEnvC sc0 cl D X.env) fp).env.scope scope own := by
  rw [show (X.blk s H sc0 (compEnvC sc0 cl D X.env) fp).N = N from hN]
  refine ⟨ok.kind, ok.uniq, ok.ix, fun y hy hf => ?_, ok.own⟩
  have key : ∀ (names : List (Str × NameKind)) (x : Str), names.lookup x = some .cell ∨ names.lookup x = some .free →
      (names.map fun (n, k) => if (k == NameKind.free && X.env.scope.kind == .function && X.env.kindOf n == some .cell) then (n, NameKind.cell) else (n, k)).lookup x = some .cell ∨
      (names.map fun (n, k) => if (k == NameKind.free && X.env.scope.kind == .function && X.env.kindOf n == some .cell) then (n, NameKind.cell) else (n, k)).lookup x = some .free := by
    intro names x h
    induction names with
    | nil => rcases h with h | h <;> cases h
    | cons p r ih =>
      obtain ⟨n, k⟩ := p
      rw [List.map_cons]
      by_cases e : (x == n) = true
      · rw [List.lookup_cons, e] at h
        dsimp only at h
        dsimp only
        split
        · rw [List.lookup_cons, e]
          exact .inl rfl
        · rw [List.lookup_cons, e]
          exact h
      · have e' : (x == n) = false := by simpa using e
        rw [List.lookup_cons, e'] at h
        dsimp only at h
        dsimp only
        split
        · rw [List.lookup_cons, e']
          exact ih h
        · rw [List.lookup_cons, e']
          exact ih h
  exact key sc0.names y.1 (ok.free y hy hf)
end MM
/-! M12: gcd, list += list, list + list of values -/
namespace MM
open PySem L2 PySem.Spec PyProof.Rows
section
variable {prog : Program} {w : World} {A : Around} {E : Value → Shared → Prop} {s : Shared}
theorem iadd_list {l b : Addr} {items items2 : Array Value} {n n2 : Nat} {Q : Value → Shared → Prop} (hl : s.heap.get? l = some { cls := .type "list", data := .seq items n }) (hb : s.heap.get? b = some { cls := .type "list", data := .seq items2 n2 })
    (hlong : ¬ (!items.isEmpty && Builtin.List.listTooLong (items.size + items2.size)) = true) (h1 : items.size ≤ sizeLine) (h2 : items.size + items2.size ≤ sizeLine + 1)
    (h : Q (.ref l) { s with heap := s.heap.update l (Obj.mapSeq fun x => x ++ items2) }) : wpAny (model prog w) A (inplaceOp .Add (.ref l) (.ref b)) Q E s := by
  have ha : s.TypeIs (.ref l) "list" := ⟨_, hl, rfl⟩
  have hbt : s.TypeIs (.ref b) "list" := ⟨_, hb, rfl⟩
  unfold inplaceOp
  refine wpAny_holding ?_
  have hfi : fillsInplaceSlot (.type "list") "add" (Operator.Add == .Add) = pure false := by
    unfold fillsInplaceSlot
    show (typeLookup (.type "list") (dunderI "add") >>= fun fi => pure (fi.isSome && !isSeqSlot fi)) = pure false
    rw [F.slot_list_iadd.lookup]
    rfl
  have hsi : seqSlot? (.type "list") (dunderI "add") = pure (some (.builtin "list.__iadd__")) := PySem.seqSlot_of F.slot_list_iadd.lookup (by decide +kernel)
  refine wpAny_bind (wpAny_typeOf ha (wpAny_bind (wpAny_of_eq hfi ?_)))
  show wpAny _ A (if false = true then _ else _) Q E s
  rw [if_neg Bool.false_ne_true]
  refine wpAny_bind (wpAny_binaryOp1_none (nm := "add") ha hbt PySem.noFill_list_add ?_)
  refine wpAny_bind (wpAny_of_eq hsi ?_)
  exact wpAny_bind (wpAny_rule (call_meets F.slot_list_iadd ha F.entry_list_iadd (F.args_list_iadd_2 _ _) (AutoSeq1.list___iadd___list_list_0 l items n b items2 n2 hlong h1 h2) ⟨hl, hb, h⟩))
end
section
variable {X : Cx} {C : Cc} {W : WX}
/-- xs += ys, lists of the small heap -/
def bExt : IV → IV → IH → R IV
  | .ref k, .ref l, h => match h[k]?, h[l]? with
    | some (.lst xs), some (.lst ys) => if xs.length + ys.length ≤ sizeLine then .ok (.ref k) (h.set k (.lst (xs ++ ys))) else .bad
    | _, _ => .bad
  | _, _, _ => .bad
theorem iop_ext : OpR X (inplaceOp .Add) (fun x y H Q => ∃ l b xs zs, x = .ref l ∧ y = .ref b ∧ H l = some (.lst xs) ∧ H b = some (.lst zs) ∧ xs.length + zs.length ≤ sizeLine ∧ Q (.ref l) (upd H l (.lst (xs ++ zs)))) := by
  intro pins s σ H x y v u Q I rx ry h
  obtain ⟨l, b, xs, zs, rfl, rfl, hH, hB, hz, q⟩ := h
  cases rx
  cases ry
  obtain ⟨z, its, n, r, hl, e⟩ := I.lstM hH
  obtain ⟨z2, its2, n2, r2, hl2, e2⟩ := I.lstM hB
  have hsz : its.toArray.size + its2.toArray.size ≤ sizeLine := by rw [List.size_toArray, List.size_toArray]; omega
  have hlong : ¬ (!its.toArray.isEmpty && Builtin.List.listTooLong (its.toArray.size + its2.toArray.size)) = true := by
    rw [notLongL hsz, Bool.and_false]
    exact Bool.false_ne_true
  refine iadd_list e e2 hlong (by rw [List.size_toArray]; omega) (by omega) ?_
  refine ⟨.ref l, _, I.lset (its' := its ++ its2) (t' := s.toks) hH e (by simp) (r.append r2) ?_, rfl, q⟩
  rw [List.length_append]
  omega
theorem im_ext : IpM X C .Add bExt := ip_of iop_ext fun W σ m H h x y u v Q s rx ry p => by
  unfold bExt at p
  split at p
  · split at p
    · rename_i k l xs ys h1 h2
      split at p
      · rename_i hz
        obtain ⟨a, vs, rfl, e, q, rr⟩ := lst_at s rx h1
        obtain ⟨b, ws, rfl, e2, q2, rr2⟩ := lst_at s ry h2
        refine ⟨a, b, vs, ws, rfl, rfl, q, q2, by rw [← rr.length, ← rr2.length]; exact hz, post_set s e q (VRs.append rr rr2) (x := .ref _) ?_ p⟩
        simp only [VR]
        exact ⟨a, e, rfl⟩
      · exact p.elim
    · exact p.elim
  · exact p.elim
/-! ### gcd -/
def bGcd : IV → IV → IH → R IV
  | .int i, .int j, h => .ok (.int ((Nat.gcd i.natAbs j.natAbs : Nat) : Int)) h
  | _, _, _ => .bad
theorem m_gcd {e e2' : Expr} {p pos : Pos} {f g : EM} (hg : Gl X "gcd") (hm : X.mg "gcd" = some (.builtin "math.gcd")) (he : PE X e (tE C X.K W f)) (he2 : PE X e2' (tE C X.K W g)) (hs : starEach (e :: [e2']) X.env = (false, eval e X.env) :: starEach [e2'] X.env)
    (hs2 : starEach (e2' :: []) X.env = (false, eval e2' X.env) :: starEach [] X.env) (hp : (backTo pos (starEach [e2'] X.env)).any (·.1) = false) : PE X (.Call (.Name "gcd" p) [e, e2'] [] pos) (tE C X.K W (e2 bGcd f g)) :=
  pe_weak (pe_callBfun cr_gcd hg hm (pa_cons he (pa_cons he2 pa_nil hs2) hs) (by decide) hs hp) fun σ H Q t => two_v (fun m H h x y u v Q s r1 r2 p => by
    unfold bGcd at p
    split at p
    · simp only [rV, VR] at r1 r2
      subst r1; subst r2
      exact ⟨_, _, rfl, post_int s p⟩
    · exact p.elim) t
end
end MM
/-! M13: raise, try -/
namespace MM
open PySem L2
def sRaise (c : Nat) : SM := fun e h => .exc ⟨c, none⟩ e h
def RS.nox : RS → RS
  | .exc _ _ _ => .bad
  | r => r
/-- which class is caught by which -/
abbrev XT := List (Nat × Nat × Bool)
def isX (tb : XT) (i j : Nat) : Option Bool := (tb.find? fun p => p.1 == i && p.2.1 == j).map (·.2.2)
def hdl (tb : XT) (x : XC) (e : IEnv) (h : IH) : List (Nat × SM) → RS
  | [] => .exc x e h
  | (c, g) :: r => match isX tb x.cls c with
    | some true => (g e h).nox
    | some false => hdl tb x e h r
    | none => .bad
def sTry (tb : XT) (b : SM) (hs : List (Nat × SM)) : SM := fun e h => match b e h with
  | .exc x e1 h1 => hdl tb x e1 h1 hs
  | r => r
structure Xf (K : PySem.W.Frag) (C : Cc) (tb : XT) : Prop where
  ok : ∀ p ∈ tb, PySem.W.exmOne K (.ref (C.ca p.1)) (.ref (C.ca p.2.1)) = some p.2.2
theorem Xf.nil {K : PySem.W.Frag} {C : Cc} : Xf K C [] := ⟨fun _ h => absurd h List.not_mem_nil⟩
theorem Xf.cons {K : PySem.W.Frag} {C : Cc} {i j : Nat} {b : Bool} {tb : XT} (h : PySem.W.exmOne K (.ref (C.ca i)) (.ref (C.ca j)) = some b) (r : Xf K C tb) : Xf K C ((i, j, b) :: tb) :=
  ⟨fun p hp => by
    rcases List.mem_cons.mp hp with e | e
    · rw [e]; exact h
    · exact r.ok p e⟩
theorem Xf.is {K : PySem.W.Frag} {C : Cc} {tb : XT} (x : Xf K C tb) {i j : Nat} {b : Bool} (h : isX tb i j = some b) : PySem.W.exmOne K (.ref (C.ca i)) (.ref (C.ca j)) = some b := by
  unfold isX at h
  cases hf : tb.find? (fun p => p.1 == i && p.2.1 == j) with
  | none => rw [hf] at h; cases h
  | some p =>
    rw [hf] at h
    have q := List.find?_some hf
    simp only [Bool.and_eq_true, beq_iff_eq] at q
    have m := x.ok p (List.mem_of_find?_eq_some hf)
    rw [q.1, q.2] at m
    rw [m]; exact h
section
variable {X : Cx} {C : Cc} {W : WX}
inductive HdM (X : Cx) (C : Cc) : List ExceptHandler → List (Nat × SM) → Prop
  | nil : HdM X C [] []
  | cons {x : Str} {c : Nat} {g : SM} {b₀ : Stmt} {suite : List Stmt} {np pos' : Pos} {hds : List ExceptHandler} {l : List (Nat × SM)} (hc : Names X x (.ref (C.ca c)))
      (hsu : ∀ (a : Addr) (oe : Obj) (pn : List (Addr × Obj)), PSs (X.suite a ((a, oe) :: pn)) (b₀ :: suite) (tS C X.K (fun _ _ _ _ => False) g)) (r : HdM X C hds l) :
      HdM X C (.ExceptHandler (some (.Name x np)) none (b₀ :: suite) pos' :: hds) ((c, g) :: l)
theorem HdM.ok {hds : List ExceptHandler} {l : List (Nat × SM)} (h : HdM X C hds l) : HdsOk X hds (l.map fun p => (.ref (C.ca p.1), fun _ _ _ => tS C X.K (fun _ _ _ _ => False) p.2)) := by
  induction h with
  | nil => exact .nil
  | cons hc hsu r ih => exact .cons hc (fun a oe _ _ pn _ _ => hsu a oe pn) ih
theorem nox_post {K : PySem.W.Frag} {m : List Addr} {H : Hp} {D : Ends} {r : RS} (p : PostS C K W m H D r.nox) : PostS C K (fun _ _ _ _ => False) m H D r := by
  cases r with
  | exc _ _ _ => exact p.elim
  | nx _ _ => exact p
  | rt _ _ => exact p
  | bk _ _ => exact p
  | ct _ _ => exact p
  | bad => exact p
theorem hdl_post {K : PySem.W.Frag} {tb : XT} (ok : Xf K C tb) {m : List Addr} {H : Hp} {D : Ends} {x : XC} {e : IEnv} {h : IH} : ∀ (l : List (Nat × SM)), PostS C K W m H D (hdl tb x e h l) → ∀ m' σ' H' cls d, Go K m H m' H' → ER K m' H' e σ' → SR K m' H' h → XRel C K m' H' x cls d →
    wMany K W D (l.map fun p => (.ref (C.ca p.1), fun _ _ _ => tS C K (fun _ _ _ _ => False) p.2)) cls d σ' H'
  | [], p, m', σ', H', cls, d, g, er, sr, xr => p m' σ' H' cls d g er sr xr
  | (c, f) :: r, p, m', σ', H', cls, d, g, er, sr, xr => by
    unfold hdl at p
    have hcls := xr.1
    cases hi : isX tb x.cls c with
    | none => rw [hi] at p; exact p.elim
    | some b =>
      rw [hi] at p
      refine ⟨b, by rw [hcls]; exact ok.is hi, fun hb _ _ => ?_, fun hb => ?_⟩
      · subst hb
        exact ⟨m', e, h, er, sr, (nox_post p).mono g⟩
      · subst hb
        exact hdl_post ok r p m' σ' H' cls d g er sr xr
theorem ms_try {tb : XT} {b : SM} {body : List Stmt} {h₀ : ExceptHandler} {hds : List ExceptHandler} {l : List (Nat × SM)} {pos : Pos} (hs : X.stack = X.env :: X.outer) (hf : X.env.frame = some X.env.locals) (tk : Takes X W) (ok : Xf X.K C tb)
    (hb : ∀ (W : WX) (pn : List (Addr × Obj)) (xe : Value → Shared → Prop), Takes (X.tr pn xe) W → PassesOwn (model X.prog X.w) X.A X.env xe → PSs (X.tr pn xe) body (tS C X.K W b))
    (hh : HdM X C (h₀ :: hds) l) : PS X (.Try body (h₀ :: hds) [] [] pos) (tS C X.K W (sTry tb b l)) :=
  ps_weak (ps_try_many (tb := fun W => tS C X.K W b) hs hf tk hb hh.ok) fun D σ H ⟨m, e, h, er, sr, p⟩ => ⟨m, e, h, er, sr, by
    unfold sTry at p
    cases hbe : b e h with
    | exc x e1 h1 => rw [hbe] at p; exact hdl_post ok l p
    | nx _ _ => rw [hbe] at p; exact p
    | rt _ _ => rw [hbe] at p; exact p
    | bk _ _ => rw [hbe] at p; exact p
    | ct _ _ => rw [hbe] at p; exact p
    | bad => rw [hbe] at p; exact p⟩
abbrev bmV : List Value := [.type "ValueError", .type "Exception", .type "BaseException", .type "object"]
/-- what is known of an own class of exceptions without an own __init__ -/
structure ExC (K : PySem.W.Frag) (mg : Str → Option Value) (x : Str) (a : Addr) : Prop where
  ex : PySem.W.excIn K a bmV "ValueError.__new__" = true
  mg : mg x = some (.ref a)
  kp : PySem.W.keepIn K (.ref a) = true
  sub : PySem.W.subIn K (.ref a) (.type "BaseException") = some true
  ty : PySem.W.typeIn K (.ref a) = some (.type "type")
theorem ms_raise {c : Nat} {x s : Str} {j : Nat} {p p2 pos' pos : Pos} (hc : X.calm = true) (tk : Takes X W) (F : ExC X.K X.mg x (C.ca c)) (hg : Gl X x := by rfl) (hdb : (x == ("__debug__" : Str)) = false := by decide +kernel) :
    PS X (.Raise (some (.Call (.Name x p) [.Constant (.str s) j p2] [] pos')) none pos) (tS C X.K W (sRaise c)) :=
  ps_weak (ps_raise hc tk (pmk_own PySem.F.excBase_ValueError F.ex F.mg F.kp (raises_own F.sub F.ty) hg hdb)) fun D σ H ⟨m, e, h, er, sr, p⟩ => p m σ H _ none Go.refl er sr ⟨rfl, rfl⟩
end
end MM
/-! M14: one combinator for values of all kinds -/
namespace MM
open PySem L2
section
variable {X : Cx} {C : Cc} {W : WX}
/-- which rule, by what is computed -/
theorem pe_by {α : Type} {rel : Rel α V} {e : Expr} {F : IEnv → IH → R α} (q : ∀ env h, ∃ G, PE X e (tG C X.K W rel G) ∧ G env h = F env h) : PE X e (tG C X.K W rel F) :=
  ⟨fun pins s σ H Q I ⟨m, env, h, er, sr, p⟩ => by
    obtain ⟨G, hG, eq⟩ := q env h
    exact hG.run pins s σ H Q I ⟨m, env, h, er, sr, by rw [eq]; exact p⟩⟩
theorem pi_by {tg e : Expr} {F : ItM} (q : ∀ env h, ∃ G, PI X tg e (tIt C X.K W G) ∧ G env h = F env h) : PI X tg e (tIt C X.K W F) :=
  ⟨fun pins s σ H R I ⟨m, env, h, er, sr, p⟩ => by
    obtain ⟨G, hG, eq⟩ := q env h
    exact hG.run pins s σ H R I ⟨m, env, h, er, sr, by rw [eq]; exact p⟩⟩
theorem bind_ok {α β : Type} {r : R α} {a : α} {h : IH} {f : α → IH → R β} (e : r = .ok a h) : r.bind f = f a h := by rw [e]; rfl
/-- one argument's form told -/
theorem by_ok {α : Type} {rel : Rel α V} {e : Expr} {f : EM} {F : IEnv → IH → R α} {k : IV → IH → R α} (hF : ∀ env h, F env h = (f env h).bind k) (hx : ∀ x : IV, ∃ G : IEnv → IH → R α, PE X e (tG C X.K W rel G) ∧ ∀ env h h1, f env h = .ok x h1 → G env h = k x h1)
    (hn : ∃ G : IEnv → IH → R α, PE X e (tG C X.K W rel G) ∧ ∀ env h, (∀ x h1, f env h ≠ .ok x h1) → G env h = (f env h).bind k) : PE X e (tG C X.K W rel F) :=
  pe_by fun env h => by
    cases hf : f env h with
    | ok x h1 =>
      obtain ⟨G, hG, q⟩ := hx x
      exact ⟨G, hG, by rw [q env h h1 hf, hF, hf]; rfl⟩
    | exc z h1 =>
      obtain ⟨G, hG, q⟩ := hn
      exact ⟨G, hG, by rw [hF]; exact q env h (fun x h2 z => by rw [hf] at z; cases z)⟩
    | bad =>
      obtain ⟨G, hG, q⟩ := hn
      exact ⟨G, hG, by rw [hF]; exact q env h (fun x h2 z => by rw [hf] at z; cases z)⟩
theorem bind_nok {α β : Type} {r : R α} {f g : α → IH → R β} (h : ∀ x h1, r ≠ .ok x h1) : r.bind f = r.bind g := by
  cases r with
  | ok a h1 => exact absurd rfl (h a h1)
  | exc _ _ => rfl
  | bad => rfl

/-! ### len -/
def lenK : IV → IH → R IV := fun x h1 => match x with
  | .str s => uLenS (.str s) h1
  | x => match items h1 x with
    | some xs => .ok (.int xs.length) h1
    | none => .bad
def eLenV (f : EM) : EM := fun env h => (f env h).bind lenK
theorem m_lenV {e : Expr} {p pos : Pos} {f : EM} (hg : Gl X "len") (hm : X.mg "len" = none) (he : PE X e (tE C X.K W f)) (hs : starEach (e :: []) X.env = (false, eval e X.env) :: starEach [] X.env) (hp : (backTo pos (starEach [] X.env)).any (·.1) = false) :
    PE X (.Call (.Name "len" p) [e] [] pos) (tE C X.K W (eLenV f)) := by
  have a := m_len (p := p) (pos := pos) hg hm (pe_qV he) hs hp
  refine by_ok (fun _ _ => rfl) (fun x => ?_) ⟨_, a, fun env h hn => ?_⟩
  · have gen : (∀ s, x ≠ .str s) → ∃ G, PE X (.Call (.Name "len" p) [e] [] pos) (tE C X.K W G) ∧ ∀ env h h1, f env h = .ok x h1 → G env h = lenK x h1 := fun hx => ⟨_, a, fun env h h1 hf => by
      unfold eLen qV lenK
      rw [hf]
      dsimp only [R.bind]
      cases x with
      | str s => exact absurd rfl (hx s)
      | _ => dsimp only; cases items h1 _ <;> rfl⟩
    cases x with
    | str s => exact ⟨_, m_lenS hg hm he hs hp, fun env h h1 hf => by unfold e1; rw [hf]; rfl⟩
    | _ => exact gen fun s z => nomatch z
  · unfold eLen qV
    cases hf : f env h with
    | ok x h1 => exact absurd hf (hn x h1)
    | exc _ _ => rfl
    | bad => rfl

/-! ### x[i] -/
def ixK (g : EM) (env : IEnv) : IV → IH → R IV := fun x h1 => (g env h1).bind fun y h2 => match x with
  | .str s => bIxS (.str s) y h2
  | x => bIx x y h2
def eIx (f g : EM) : EM := fun env h => (f env h).bind (ixK g env)
theorem m_ixV {a b : Expr} {f g : EM} {pos : Pos} (ha : PE X a (tE C X.K W f)) (hb : PE X b (tE C X.K W g)) (hs : PlainIx b) : PE X (.Subscript a b pos) (tE C X.K W (eIx f g)) :=
  pe_by fun env h => by
    by_cases hx : ∃ s h1, f env h = .ok (.str s) h1
    · obtain ⟨s, h1, hf⟩ := hx
      exact ⟨_, m_ixS ha hb hs, by unfold MM.e2 eIx ixK; rw [hf]; rfl⟩
    · refine ⟨_, m_ix ha hb hs, ?_⟩
      unfold MM.e2 eIx ixK
      cases hf : f env h with
      | ok x h1 =>
        dsimp only [R.bind]
        cases x with
        | str s => exact absurd ⟨s, h1, hf⟩ hx
        | _ => rfl
      | exc _ _ => rfl
      | bad => rfl

/-! ### x[i:j] -/
theorem m_cutS {e : Expr} {lo hi : Option Expr} {f : EM} {l u : IEnv → IH → R (Option Int)} {p2 pos : Pos} (he : PE X e (tE C X.K W f)) (hl : PO X lo (tOI C X.K W l)) (hu : PO X hi (tOI C X.K W u)) :
    PE X (.Subscript e (.Slice lo hi none p2) pos) (tE C X.K W fun env h => (f env h).bind fun x h1 => (l env h1).bind fun a h2 => (u env h2).bind fun b h3 => match x with
      | .str s => if s.length ≤ sizeLine then .ok (.str (cutS s a b)) h3 else .bad
      | _ => .bad) :=
  pe_weak (pe_slice sl_str he hl hu) fun σ H Q ⟨m, env, h, er, sr, p⟩ => ⟨m, env, h, er, sr, tg_run p fun m1 H1 x h1 u1 g1 s1 r1 p1 => ⟨m1, env, h1, er.mono g1, s1, tg_run p1 fun m2 H2 a h2 u2 g2 s2 r2 p2 =>
    ⟨m2, env, h2, (er.mono g1).mono g2, s2, tg_run p2 fun m3 H3 b h3 u3 g3 s3 r3 p3 => by
      subst r2; subst r3
      cases x <;> first | exact p3.elim | skip
      rename_i s
      simp only [rV, VR] at r1
      subst r1
      dsimp only at p3
      split at p3
      · rename_i hz
        exact ⟨s, rfl, hz, post_str s3 p3⟩
      · exact p3.elim⟩⟩⟩
def cutK (l u : IEnv → IH → R (Option Int)) (env : IEnv) : IV → IH → R IV := fun x h1 => (l env h1).bind fun a h2 => (u env h2).bind fun b h3 => match x with
  | .str s => if s.length ≤ sizeLine then .ok (.str (cutS s a b)) h3 else .bad
  | .tup xs => .ok (.tup (cut xs a b)) h3
  | x => match items h3 x with
    | some xs => .ok (.fz (cut xs a b)) h3
    | none => .bad
def eCut (f : EM) (l u : IEnv → IH → R (Option Int)) : EM := fun env h => (f env h).bind (cutK l u env)
theorem bind_assoc {α β γ : Type} (r : R α) (f : α → IH → R β) (g : β → IH → R γ) : (r.bind f).bind g = r.bind fun a h => (f a h).bind g := by cases r <;> rfl
theorem m_cut {e : Expr} {lo hi : Option Expr} {f : EM} {l u : IEnv → IH → R (Option Int)} {p2 pos : Pos} (he : PE X e (tE C X.K W f)) (hl : PO X lo (tOI C X.K W l)) (hu : PO X hi (tOI C X.K W u)) :
    PE X (.Subscript e (.Slice lo hi none p2) pos) (tE C X.K W (eCut f l u)) :=
  pe_by fun env h => by
    by_cases hx : ∃ s h1, f env h = .ok (.str s) h1
    · obtain ⟨s, h1, hf⟩ := hx
      exact ⟨_, m_cutS he hl hu, by unfold eCut cutK; rw [hf]; rfl⟩
    · by_cases hy : ∃ s h1, f env h = .ok (.tup s) h1
      · obtain ⟨s, h1, hf⟩ := hy
        exact ⟨_, m_cutT he hl hu, by unfold eCut eCutT cutK; rw [hf]; rfl⟩
      · refine ⟨_, m_fz (m_cutL he hl hu), ?_⟩
        unfold eCut eFz lCut cutK
        cases hf : f env h with
        | ok x h1 =>
          dsimp only [R.bind]
          cases ha : l env h1 with
          | ok a h2 =>
            dsimp only
            cases hb : u env h2 with
            | ok b h3 =>
              dsimp only
              cases x with
              | str s => exact absurd ⟨s, h1, hf⟩ hx
              | tup s => exact absurd ⟨s, h1, hf⟩ hy
              | _ => dsimp only; cases items h3 _ <;> rfl
            | exc _ _ => rfl
            | bad => rfl
          | exc _ _ => rfl
          | bad => rfl
        | exc _ _ => rfl
        | bad => rfl

/-! ### what is walked -/
def seqK : IV → IH → R (List IV × (IH → Bool)) := fun x h1 => match x with
  | .tup xs => .ok (xs, fun _ => true) h1
  | .fz xs => .ok (xs, fun _ => true) h1
  | .ref k => match h1[k]? with
    | some (.lst xs) => .ok (xs, stands k xs) h1
    | _ => .bad
  | _ => .bad
def iSeq (f : EM) : ItM := fun e h => (f e h).bind seqK
theorem mi_seq {tg ex : Expr} {f : EM} (he : PE X ex (tE C X.K W f)) : PI X tg ex (tIt C X.K W (iSeq f)) :=
  pi_by fun env h => by
    by_cases hy : ∃ s h1, f env h = .ok (.tup s) h1
    · obtain ⟨s, h1, hf⟩ := hy
      exact ⟨_, mi_tup he, by unfold iTup iSeq seqK; rw [hf]; rfl⟩
    · refine ⟨_, mi_lstV he, ?_⟩
      unfold iLstV iSeq seqK
      cases hf : f env h with
      | ok x h1 =>
        dsimp only [R.bind]
        cases x with
        | tup s => exact absurd ⟨s, h1, hf⟩ hy
        | _ => rfl
      | exc _ _ => rfl
      | bad => rfl
/-- enumerate(x) -/
theorem mi_enumF {e : Expr} {f : EM} {p pos tpos : Pos} {elts : List Expr} {kk : Nat} (hg : Gl X "enumerate") (hm : X.mg "enumerate" = none) (he : PE X e (tE C X.K W f)) (hs : starEach [e] X.env = [(false, eval e X.env)]) :
    PI X (.Tuple elts kk tpos) (.Call (.Name "enumerate" p) [e] [] pos) (tIt C X.K W fun e h => (f e h).bind fun x h1 => match x with
      | .fz xs => .ok (enumFrom 0 xs, fun _ => true) h1
      | _ => .bad) :=
  ⟨fun pins s σ H R I ⟨m, env, h, er, sr, q⟩ => (pi_enumL (elts := elts) (kk := kk) (tpos := tpos) hg hm (m_aCons he m_aNil hs) hs).run pins s σ H R I (by
    refine ⟨m, env, h, er, sr, ?_⟩
    dsimp only at q
    unfold aCons aNil
    cases hf : f env h with
    | bad => rw [hf] at q; exact q
    | exc z h1 => rw [hf] at q; exact q
    | ok x h1 =>
      rw [hf] at q
      intro m1 H1 us g1 s1 r1
      have q3 := Post.mono g1 q
      change VRs X.K m1 H1 [x] us at r1
      simp only [VRs] at r1
      obtain ⟨v1, r, rfl, rv, rfl⟩ := r1
      cases x <;> first | exact q.elim | skip
      rename_i xs
      simp only [VR] at rv
      obtain ⟨a, vs, rfl, t, rr⟩ := rv
      refine ⟨a, vs, rfl, t.list, Post.here q3 s1 ?_⟩
      refine ⟨fun H2 => SqL X.K H2 a vs, fun i H2 x H3 => ∃ T u ob, x = .ref T ∧ H2 T = none ∧ ob.dict = none ∧ H3 = upd H2 T (.frz ob (.tup [.int (i : Nat), u])) ∧ vs[i]? = some u, ?_, fun m2 H2 h2 g2 s2 _ => ⟨(g2.scr t).list, fun i x H3 hi ⟨T, u, ob, e1, e2, ed, e3, e4⟩ => ?_⟩⟩
      · dsimp only
        rw [enumFrom_len, rr.length]
        refine ⟨fun i H hi h => ⟨vs, vs[i], h, List.getElem?_eq_getElem hi⟩, fun H h => ⟨vs, h, Nat.le_refl _⟩, fun i H x H' hi h ⟨T, u, ob, e1, e2, ed, e3, e4⟩ => ⟨T, u, ob, e1, e2, ed, e3, e4 vs h⟩⟩
      · subst e1; subst e3
        have hi2 : i < xs.length := by rw [rr.length]; exact (List.getElem?_eq_some_iff.mp e4).1
        obtain ⟨v, h5, h6⟩ := rr.get (List.getElem?_eq_getElem hi2)
        rw [e4] at h5; cases h5
        refine ⟨_, enumFrom_at xs 0 i _ (List.getElem?_eq_getElem hi2), Go.laid e2, s2.laid e2, VR.newTup e2 ed ?_⟩
        simp only [VRs, VR]
        exact ⟨.int ((0 + i : Nat) : Int), [u], by simp, rfl, u, [], rfl, VR.mono g2 _ _ h6, rfl⟩)⟩
def enumK : IV → IH → R (List IV × (IH → Bool)) := fun x h1 => match x with
  | .tup xs => .ok (enumFrom 0 xs, fun _ => true) h1
  | .fz xs => .ok (enumFrom 0 xs, fun _ => true) h1
  | .ref k => match h1[k]? with
    | some (.lst xs) => .ok (enumFrom 0 xs, stands k xs) h1
    | _ => .bad
  | _ => .bad
def iEnumV (f : EM) : ItM := fun e h => (f e h).bind enumK
theorem mi_enumV {e : Expr} {f : EM} {p pos tpos : Pos} {elts : List Expr} {kk : Nat} (hg : Gl X "enumerate") (hm : X.mg "enumerate" = none) (he : PE X e (tE C X.K W f)) (hs : starEach [e] X.env = [(false, eval e X.env)]) :
    PI X (.Tuple elts kk tpos) (.Call (.Name "enumerate" p) [e] [] pos) (tIt C X.K W (iEnumV f)) :=
  pi_by fun env h => by
    by_cases hy : ∃ s h1, f env h = .ok (.tup s) h1
    · obtain ⟨s, h1, hf⟩ := hy
      exact ⟨_, mi_enumT hg hm he hs, by unfold iEnumT iEnumV enumK; rw [hf]; rfl⟩
    · by_cases hz : ∃ s h1, f env h = .ok (.fz s) h1
      · obtain ⟨s, h1, hf⟩ := hz
        exact ⟨_, mi_enumF hg hm he hs, by unfold iEnumV enumK; rw [hf]; rfl⟩
      · refine ⟨_, mi_enumL hg hm he hs, ?_⟩
        unfold iEnumL iEnumV enumK
        cases hf : f env h with
        | ok x h1 =>
          dsimp only [R.bind]
          cases x with
          | tup s => exact absurd ⟨s, h1, hf⟩ hy
          | fz s => exact absurd ⟨s, h1, hf⟩ hz
          | _ => rfl
        | exc _ _ => rfl
        | bad => rfl

/-! ### max, min of a list or a tuple -/
theorem m_maxV {e : Expr} {p pos : Pos} {f : EM} (hu : X.A.units + 64 < cLine) (hc : X.calm = true) (hg : Gl X "max") (hm : X.mg "max" = none) (he : PE X e (tE C X.K W f)) (hs : starEach (e :: []) X.env = (false, eval e X.env) :: starEach [] X.env) (hp : (backTo pos (starEach [] X.env)).any (·.1) = false) :
    PE X (.Call (.Name "max" p) [e] [] pos) (tE C X.K W (eInts maxL (qV f))) :=
  pe_by fun env h => by
    by_cases hy : ∃ s h1, f env h = .ok (.tup s) h1
    · obtain ⟨s, h1, hf⟩ := hy
      exact ⟨_, m_maxT hu hc hg hm he hs hp, by unfold eInts qTV qV; rw [hf]; rfl⟩
    · refine ⟨_, m_max hc hg hm (pe_lV he) hs hp, ?_⟩
      unfold eInts qLV qV
      cases hf : f env h with
      | ok x h1 =>
        dsimp only [R.bind]
        cases x with
        | tup s => exact absurd ⟨s, h1, hf⟩ hy
        | _ => rfl
      | exc _ _ => rfl
      | bad => rfl
theorem m_minV {e : Expr} {p pos : Pos} {f : EM} (hu : X.A.units + 64 < cLine) (hc : X.calm = true) (hg : Gl X "min") (hm : X.mg "min" = none) (he : PE X e (tE C X.K W f)) (hs : starEach (e :: []) X.env = (false, eval e X.env) :: starEach [] X.env) (hp : (backTo pos (starEach [] X.env)).any (·.1) = false) :
    PE X (.Call (.Name "min" p) [e] [] pos) (tE C X.K W (eInts minL (qV f))) :=
  pe_by fun env h => by
    by_cases hy : ∃ s h1, f env h = .ok (.tup s) h1
    · obtain ⟨s, h1, hf⟩ := hy
      exact ⟨_, m_minT hu hc hg hm he hs hp, by unfold eInts qTV qV; rw [hf]; rfl⟩
    · refine ⟨_, m_min hc hg hm (pe_lV he) hs hp, ?_⟩
      unfold eInts qLV qV
      cases hf : f env h with
      | ok x h1 =>
        dsimp only [R.bind]
        cases x with
        | tup s => exact absurd ⟨s, h1, hf⟩ hy
        | _ => rfl
      | exc _ _ => rfl
      | bad => rfl

/-! ### x.index(y) -/
def idxK (g : IEnv → IH → R (List IV)) (env : IEnv) : IV → IH → R IV := fun x h1 => match items h1 x with
  | some _ => (g env h1).bind fun ys h2 => match ys with
    | [y] => match items h2 x with
      | some xs => if flat y = true ∧ xs.all flat = true then match idxOf y xs with
        | some j => .ok (.int j) h2
        | none => .bad else .bad
      | none => .bad
    | _ => .bad
  | none => .bad
def eIdx (f : EM) (g : IEnv → IH → R (List IV)) : EM := fun env h => (f env h).bind (idxK g env)
theorem m_idxL {obj e : Expr} {es : List Expr} {name : Str} {apos pos : Pos} {f : EM} {g : IEnv → IH → R (List IV)} (ho : PE X obj (tE C X.K W f)) (ha : PA X (e :: es) (tA C X.K W g))
    (mk : ∀ {r : V → List V → Hp → VK → Prop} {t : TA} {to : TE}, MtR X "list.index" r → PE X obj to → PA X (e :: es) t → PE X (.Call (.Attribute obj name apos) (e :: es) [] pos) (tBM X.K "list" r to t)) :
    PE X (.Call (.Attribute obj name apos) (e :: es) [] pos) (tE C X.K W fun env h => (f env h).bind fun x h1 => match itemsL h1 x with
      | some _ => (g env h1).bind fun ys h2 => match ys with
        | [y] => match itemsL h2 x with
          | some xs => if flat y = true ∧ xs.all flat = true then match idxOf y xs with
            | some j => .ok (.int j) h2
            | none => .bad else .bad
          | none => .bad
        | _ => .bad
      | none => .bad) := by
  refine pe_weak (mk mt_index ho ha) fun σ H Q ⟨m, env, h, er, sr, p⟩ => ⟨m, env, h, er, sr, tg_run p fun m1 H1 x hh u g1 s1 r1 p1 => ?_⟩
  split at p1
  · rename_i xs0 hi0
    obtain ⟨a, vs, rfl, q, rr⟩ := itemsL_rd s1 r1 hi0
    refine ⟨.inl ⟨rfl, _, q⟩, m1, env, hh, er.mono g1, s1, tg_run p1 fun m2 H2 ys h2' us g2 s2 r2 p2 => ?_⟩
    split at p2
    · rename_i y
      split at p2
      · rename_i xs hi
        split at p2
        · rename_i hf
          split at p2
          · rename_i j hj
            obtain ⟨b, vs2, hb, q2, rr2⟩ := itemsL_rd s2 (VR.mono g2 _ _ r1) hi
            cases hb
            obtain ⟨v, rfl, rv⟩ := one_of r2
            obtain ⟨z, h1, h2, h3⟩ := idxOf_get hj
            obtain ⟨w, h4, rw'⟩ := rr2.get h1
            have fz : flat z = true := List.all_eq_true.mp hf.2 z (List.mem_of_getElem? h1)
            refine ⟨a, vs2, v, j, w, rfl, rfl, q2, flat_of rv hf.1, flats_of rr2 hf.2, h4, by rw [eqF_of rw' rv fz hf.1]; exact h2, fun i w' hi hw => ?_, post_int s2 p2⟩
            obtain ⟨z', h5⟩ : ∃ z', xs[i]? = some z' := ⟨xs[i]'(by have := (List.getElem?_eq_some_iff.mp h1).1; omega), List.getElem?_eq_getElem _⟩
            obtain ⟨w2, h6, rw2⟩ := rr2.get h5
            rw [hw] at h6; cases h6
            have fz' : flat z' = true := List.all_eq_true.mp hf.2 z' (List.mem_of_getElem? h5)
            rw [eqF_of rw2 rv fz' hf.1]
            exact h3 i z' hi h5
          · exact p2.elim
        · exact p2.elim
      · exact p2.elim
    · exact p2.elim
  · exact p1.elim
end
end MM
/-! M15: more of the same -/
namespace MM
open PySem L2
/-- a list, live or frozen -/
def SqX (K : PySem.W.Frag) (H : Hp) (a : Addr) (xs : List V) : Prop := H a = some (.lst xs) ∨ SqF K H a xs
section
variable {X : Cx} {pins : List (Addr × Obj)} {σ : L2.St} {H : Hp} {s : Shared}
theorem SqX.obj (I : L2.Inv X pins σ H s) {a : Addr} {xs : List V} (h : SqX X.K H a xs) : ∃ (its : List Value) (n : Nat), Vals xs its ∧ xs.length ≤ sizeLine ∧ s.heap.get? a = some { cls := .type "list", data := .seq its.toArray n } := by
  rcases h with h | ⟨o, h⟩ | ⟨its, n, hk, hz, r⟩
  · obtain ⟨z, its, n, r, e⟩ := I.hok a _ h
    exact ⟨its, n, r, z, e⟩
  · obtain ⟨e0, z, its, n, r, e⟩ := (show ObjOk X.prog X.w H s.heap a (.frz o (.lst xs)) from I.hok a _ h)
    exact ⟨its, n, r, z, e⟩
  · refine ⟨its.toList, n, r, by rw [r.length]; simpa using hz, ?_⟩
    have := I.kIn a _ hk
    simpa using this
end
theorem itemsL_rdX {K : PySem.W.Frag} {m : List Addr} {H : Hp} {h : IH} (s : SR K m H h) {x : IV} {v : V} {xs : List IV} (r : VR K m H x v) (e : itemsL h x = some xs) : ∃ a vs, v = .ref a ∧ SqX K H a vs ∧ VRs K m H xs vs := by
  cases x with
  | fz ys =>
    simp only [VR] at r
    obtain ⟨a, vs, rfl, q, rr⟩ := r
    cases e
    exact ⟨a, _, rfl, .inr q, rr⟩
  | ref k =>
    simp only [VR] at r
    obtain ⟨a, e1, rfl⟩ := r
    simp only [itemsL] at e
    split at e
    · rename_i ys hk
      cases e
      obtain ⟨a', vs, e2, q, rr⟩ := s.get hk
      rw [e1] at e2; cases e2
      exact ⟨a, vs, rfl, .inl q, rr⟩
    · cases e
  | non => cases e
  | bl _ => cases e
  | int _ => cases e
  | str _ => cases e
  | tup _ => cases e
section
variable {X : Cx} {C : Cc} {W : WX}
theorem op_catX : OpR X (binaryOp .Add) (fun x y H Q => ∃ l b xs zs, x = .ref l ∧ y = .ref b ∧ SqX X.K H l xs ∧ SqX X.K H b zs ∧ xs.length + zs.length ≤ sizeLine ∧ ∀ p, H p = none → Q (.ref p) (upd H p (.lst (xs ++ zs)))) := by
  intro pins s σ H x y v u Q I rx ry h
  obtain ⟨l, b, xs, zs, rfl, rfl, hH, hB, hz, q⟩ := h
  cases rx
  cases ry
  obtain ⟨its, n, r, z, e⟩ := hH.obj I
  obtain ⟨its2, n2, r2, z2, e2⟩ := hB.obj I
  refine PySem.P.add_list e e2 ?_ (by rw [List.size_toArray, List.size_toArray, ← r.length, ← r2.length]; omega)
  have ea : its.toArray ++ its2.toArray = (its ++ its2).toArray := by simp
  rw [ea]
  exact ⟨.ref _, _, I.lnew (t' := s.toks) (r.append r2) (by rw [List.length_append]; omega), rfl, q _ I.fresh⟩
/-- list + list -/
def catK (x y : IV) (h : IH) : R (List IV) := match itemsL h x, itemsL h y with
  | some xs, some ys => if xs.length + ys.length ≤ sizeLine then .ok (xs ++ ys) h else .bad
  | _, _ => .bad
def lCatV (f g : EM) : IEnv → IH → R (List IV) := fun env h => (f env h).bind fun x h1 => (g env h1).bind fun y h2 => catK x y h2
theorem m_catV {a b : Expr} {f g : EM} {pos : Pos} (ha : PE X a (tE C X.K W f)) (hb : PE X b (tE C X.K W g)) : PE X (.BinOp a .Add b pos) (tL C X.K W (lCatV f g)) :=
  pe_weak (pe_op op_catX ha hb) fun σ H Q ⟨m, env, h, er, sr, p⟩ => ⟨m, env, h, er, sr, tg_run p fun m1 H1 x h1 u g1 s1 r1 p1 => ⟨m1, env, h1, er.mono g1, s1, tg_run p1 fun m2 H2 y h2 v g2 s2 r2 p2 => by
    unfold catK at p2
    split at p2
    · rename_i xs ys hx hy
      split at p2
      · rename_i hz
        obtain ⟨a, vs, rfl, q, rr⟩ := itemsL_rdX s2 (VR.mono g2 _ _ r1) hx
        obtain ⟨b, ws, rfl, q2, rr2⟩ := itemsL_rdX s2 r2 hy
        exact ⟨a, b, vs, ws, rfl, rfl, q, q2, by rw [← rr.length, ← rr2.length]; exact hz, fun w hw => post_lst s2 p2 (VRs.append rr rr2) hw⟩
      · exact p2.elim
    · exact p2.elim⟩⟩
/-- x + y of numbers, texts, tuples, lists -/
def addK (x y : IV) (h : IH) : R IV := match itemsL h x with
  | some _ => (catK x y h).bind fun xs h1 => .ok (.fz xs) h1
  | none => bAdd x y h
theorem m_addV {a b : Expr} {f g : EM} {pos : Pos} (ha : PE X a (tE C X.K W f)) (hb : PE X b (tE C X.K W g)) : PE X (.BinOp a .Add b pos) (tE C X.K W (e2 addK f g)) :=
  pe_by fun env h => by
    by_cases hx : ∃ x h1 y h2 xs, f env h = .ok x h1 ∧ g env h1 = .ok y h2 ∧ itemsL h2 x = some xs
    · obtain ⟨x, h1, y, h2, xs, hf, hg, hi⟩ := hx
      refine ⟨_, m_fz (m_catV ha hb), ?_⟩
      unfold eFz lCatV MM.e2 addK
      rw [hf]
      dsimp only [R.bind]
      rw [hg]
      dsimp only
      rw [hi]
    · refine ⟨_, m_op om_add ha hb, ?_⟩
      unfold MM.e2 addK
      cases hf : f env h with
      | ok x h1 =>
        dsimp only [R.bind]
        cases hg : g env h1 with
        | ok y h2 =>
          dsimp only
          cases hi : itemsL h2 x with
          | none => rfl
          | some xs => exact absurd ⟨x, h1, y, h2, xs, hf, hg, hi⟩ hx
        | exc _ _ => rfl
        | bad => rfl
      | exc _ _ => rfl
      | bad => rfl
/-- x.index(y) -/
theorem m_idxV {obj e : Expr} {es : List Expr} {name : Str} {apos pos : Pos} {f : EM} {g : IEnv → IH → R (List IV)} (ho : PE X obj (tE C X.K W f)) (ha : PA X (e :: es) (tA C X.K W g)) 
    (mk : ∀ {r : V → List V → Hp → VK → Prop} {t : TA} {to : TE}, MtR X "list.index" r → PE X obj to → PA X (e :: es) t → PE X (.Call (.Attribute obj name apos) (e :: es) [] pos) (tBM X.K "list" r to t))
    (mk2 : ∀ {r : V → List V → Hp → VK → Prop} {t : TA} {to : TE}, MtR X "tuple.index" r → PE X obj to → PA X (e :: es) t → PE X (.Call (.Attribute obj name apos) (e :: es) [] pos) (tBT X.K r to t)) :
    PE X (.Call (.Attribute obj name apos) (e :: es) [] pos) (tE C X.K W (eIdx f g)) :=
  pe_by fun env h => by
    by_cases hy : ∃ s h1, f env h = .ok (.tup s) h1
    · obtain ⟨s, h1, hf⟩ := hy
      refine ⟨_, m_tix ho ha mk2, ?_⟩
      unfold eTIx eIdx idxK
      rw [hf]
      rfl
    · refine ⟨_, m_idxL ho ha mk, ?_⟩
      unfold eIdx idxK
      cases hf : f env h with
      | ok x h1 =>
        dsimp only [R.bind]
        have nt : ∀ h2, items h2 x = itemsL h2 x := fun h2 => by
          cases x with
          | tup s => exact absurd ⟨s, h1, hf⟩ hy
          | _ => rfl
        simp only [nt]
      | exc _ _ => rfl
      | bad => rfl
/-! ### repr of all -/
def reprK : IV → IH → R IV := fun x h => match x with
  | .non => .ok (.str "None") h
  | .bl b => .ok (.str (if b then "True" else "False")) h
  | .str s => if (reprText s).length ≤ sizeLine then .ok (.str (reprText s)) h else .bad
  | x => uRepr x h
theorem call_repr_0 : CallR X (.builtin "repr") (fun xs H Q => (xs = [V.non] ∧ Q (.str "None") H) ∨ (∃ b, xs = [V.bl b] ∧ Q (.str (if b then "True" else "False")) H) ∨ ∃ z, xs = [V.str z] ∧ (reprText z).length ≤ sizeLine ∧ Q (.str (reprText z)) H) := by
  intro pins s σ H xs us Q I r h
  rcases h with ⟨rfl, q⟩ | ⟨b, rfl, q⟩ | ⟨z, rfl, hz, q⟩
  · obtain ⟨u, rfl, r0⟩ := vals1 r
    cases (show u = Value.none from r0)
    exact PySem.P.repr_of_none ⟨.str _, H, I.tok _, ⟨_, rfl⟩, q⟩
  · obtain ⟨u, rfl, r0⟩ := vals1 r
    cases (show u = Value.bool b from r0)
    exact PySem.P.repr_of_bool ⟨.str _, H, I.tok _, ⟨_, rfl⟩, q⟩
  · obtain ⟨u, rfl, t, rfl⟩ := vals1 r
    exact PySem.P.repr_of_str ⟨.str _, H, I.tok _, ⟨_, rfl⟩, q⟩ hz
theorem m_repr0 {e : Expr} {p pos : Pos} {f : EM} (hg : Gl X "repr") (hm : X.mg "repr" = none) (he : PE X e (tE C X.K W f)) (hs : starEach (e :: []) X.env = (false, eval e X.env) :: starEach [] X.env) (hp : (backTo pos (starEach [] X.env)).any (·.1) = false) :
    PE X (.Call (.Name "repr" p) [e] [] pos) (tE C X.K W (e1 (fun x h => match x with
      | .non => .ok (.str "None") h
      | .bl b => .ok (.str (if b then "True" else "False")) h
      | .str s => if (reprText s).length ≤ sizeLine then .ok (.str (reprText s)) h else .bad
      | _ => .bad) f)) :=
  pe_weak (pe_callB call_repr_0 hg hm (by decide +kernel) (pa_cons he pa_nil hs) (by decide) (by decide) hs hp) fun σ H Q t => one_v (fun m H h x u Q s r p => by
    dsimp only at p
    split at p
    · simp only [rV, VR] at r
      subst r
      exact .inl ⟨rfl, post_str s p⟩
    · simp only [rV, VR] at r
      subst r
      exact .inr (.inl ⟨_, rfl, post_str s p⟩)
    · simp only [rV, VR] at r
      subst r
      split at p
      · exact .inr (.inr ⟨_, rfl, by assumption, post_str s p⟩)
      · exact p.elim
    · exact p.elim) t
theorem m_reprV {e : Expr} {p pos : Pos} {f : EM} (hgd : X.A.guards = some []) (hu : X.A.units + 80 < cLine) (hg : Gl X "repr") (hm : X.mg "repr" = none) (he : PE X e (tE C X.K W f)) (hs : starEach (e :: []) X.env = (false, eval e X.env) :: starEach [] X.env) (hp : (backTo pos (starEach [] X.env)).any (·.1) = false) :
    PE X (.Call (.Name "repr" p) [e] [] pos) (tE C X.K W (e1 reprK f)) :=
  pe_by fun env h => by
    by_cases hx : ∃ x h1, f env h = .ok x h1 ∧ (x = .non ∨ (∃ b, x = .bl b) ∨ ∃ s, x = .str s)
    · obtain ⟨x, h1, hf, hx⟩ := hx
      refine ⟨_, m_repr0 hg hm he hs hp, ?_⟩
      unfold e1 reprK
      rw [hf]
      rcases hx with rfl | ⟨b, rfl⟩ | ⟨s, rfl⟩ <;> rfl
    · refine ⟨_, m_repr hgd hu hg hm he hs hp, ?_⟩
      unfold e1 reprK
      cases hf : f env h with
      | ok x h1 =>
        dsimp only [R.bind]
        cases x with
        | non => exact absurd ⟨_, h1, hf, .inl rfl⟩ hx
        | bl b => exact absurd ⟨_, h1, hf, .inr (.inl ⟨b, rfl⟩)⟩ hx
        | str b => exact absurd ⟨_, h1, hf, .inr (.inr ⟨b, rfl⟩)⟩ hx
        | _ => rfl
      | exc _ _ => rfl
      | bad => rfl

/-! ### sorted -/
def srtK : IV → IH → R (List IV) := fun x h => match items h x with
  | some xs => match intsOf xs with
    | some ns => .ok ((sortI ns).map .int) h
    | none => match itemsL h x with
      | some ys => match optAll (toD h 66) ys with
        | some ds => if sortOk ds = true then .ok (((ys.zip ds).mergeSort (PySem.W.dataLe false (·.2))).map (·.1)) h else .bad
        | none => .bad
      | none => .bad
  | none => .bad
def lSrt (f : EM) : IEnv → IH → R (List IV) := fun env h => (f env h).bind srtK
theorem m_srt {e : Expr} {p pos : Pos} {f : EM} (hu : X.A.units + 64 < cLine) (hg : Gl X "sorted") (hm : X.mg "sorted" = none) (he : PE X e (tE C X.K W f)) (hs : starEach (e :: []) X.env = (false, eval e X.env) :: starEach [] X.env) (hp : (backTo pos (starEach [] X.env)).any (·.1) = false) :
    PE X (.Call (.Name "sorted" p) [e] [] pos) (tL C X.K W (lSrt f)) :=
  pe_by fun env h => by
    by_cases hx : ∃ x h1 xs, f env h = .ok x h1 ∧ items h1 x = some xs ∧ intsOf xs = none ∧ itemsL h1 x = some xs
    · obtain ⟨x, h1, xs, hf, hi, hn, hl⟩ := hx
      refine ⟨_, m_sortD hu hg hm (pe_lV he) hs hp, ?_⟩
      unfold lSortD qLV lSrt srtK
      rw [hf]
      dsimp only [R.bind]
      rw [hi, hl]
      dsimp only
      rw [hn]
      try rfl
    · refine ⟨_, m_sorted hg hm (pe_qV he) hs hp, ?_⟩
      unfold lInts qV lSrt srtK
      cases hf : f env h with
      | ok x h1 =>
        dsimp only [R.bind]
        cases hi : items h1 x with
        | none => rfl
        | some xs =>
          dsimp only
          cases hn : intsOf xs with
          | some ns => rfl
          | none =>
            dsimp only
            cases hl : itemsL h1 x with
            | none => rfl
            | some ys =>
              have e : ys = xs := by
                cases x with
                | fz zs => cases hi; cases hl; rfl
                | ref k =>
                  have : items h1 (.ref k) = itemsL h1 (.ref k) := rfl
                  rw [this, hl] at hi
                  cases hi; rfl
                | _ => cases hl
              rw [e] at hl
              exact absurd ⟨x, h1, xs, hf, hi, hn, hl⟩ hx
      | exc _ _ => rfl
      | bad => rfl

/-! ### name = [..], frozen -/
theorem ms_setLcZ {i : Nat} {y : Str} {py : Pos} {elt tg iter : Expr} {ifs : List Expr} {scope : Scope} {own : List (Str × Nat)} {pos spos : Pos} {it : ItM} {ts : List Nat} {g : GM} {c : IEnv → IH → R Bool} {f : EM} (hc : X.calm = true) (hN : X.N.Nodup) (hy : X.N[i]? = some y) (hyl : X.env.scope.names.lookup y = some .local)
    (hsw : swapsWith (.ListComp elt [⟨tg, iter, ifs, 0⟩] scope pos) (some (.Name y py)) spos.line X.env = pure true) (hi : PI X tg iter (tIt C X.K W it)) (ok : BlkOk X.N X.env.scope scope own) (sub : ∀ t ∈ ts, t ∈ own.map (·.2))
    (hg : ∀ (s : Shared) (H : Hp) (D : Addr) (cl : List (Str × Addr)) (fp : List Addr), PG (X.blk s H scope (compEnvC scope cl D X.env) fp) tg (tGt X.K ts g)) (ht : ∀ (s : Shared) (H : Hp) (D : Addr) (cl : List (Str × Addr)) (fp : List Addr), PTs (X.blk s H scope (compEnvC scope cl D X.env) fp) ifs (tT C X.K (fun _ _ _ _ => False) c))
    (he : ∀ (s : Shared) (H : Hp) (D : Addr) (cl : List (Str × Addr)) (fp : List Addr), PE (X.blk s H scope (compEnvC scope cl D X.env) fp) elt (tE C X.K (fun _ _ _ _ => False) f)) (hs : ∀ x, foldedSetIterable iter X.env x = pure x) :
    PS X (.Assign [.Name y py] (.ListComp elt [⟨tg, iter, ifs, 0⟩] scope pos) spos) (tS C X.K W (sAsg (eFz (lLc (own.map (·.2)) it g c f)) (gNm i))) :=
  ⟨fun pins s σ H D I ⟨m, e, h, er, sr, p⟩ => by
    refine thn ((L2.ps_setLc hc hN hy hyl hsw hi ok hg ht he hs).run pins s σ H { D with nx := fun σ' H' => ∃ as, ∀ H2, Locked as H' H2 → D.nx σ' H2 } I (m_lc (W := W) hc hN hi ok sub hg ht he σ H _ ⟨m, e, h, er, sr, ?_⟩)) fun fl s1 q => ?_
    · have p' : PostS C X.K W m H D (RS.of e ((lLc (own.map (·.2)) it g c f e h).bind fun xs h1 => .ok (.fz xs) h1) fun v h1 => .nx (e.set i (some v)) h1) := p
      revert p'
      cases lLc (own.map (·.2)) it g c f e h with
      | ok xs h1 =>
        intro p' m1 H1 u g1 s1 ⟨a, vs, ea, n, fr, q, rr⟩
        subst ea
        have n0 : a ∉ m := fun z => by
          obtain ⟨k, e⟩ := List.mem_iff_getElem?.mp z
          exact n (List.mem_of_getElem? (g1.pre k a e))
        refine ⟨[a], fun H2 L => ?_⟩
        obtain ⟨ob, q3⟩ := L.at_ a vs (by simp) q
        have go2 := L.go g1 fun b hb _ => by simp at hb; subst hb; exact fr n0
        refine p' m1 _ H2 go2 ((er.mono go2).set ?_) (L.sr s1 fun b hb => by simp at hb; subst hb; exact n)
        show VR X.K m1 H2 (.fz xs) (.ref a)
        simp only [VR]
        exact ⟨a, vs, rfl, .inl ⟨ob, q3⟩, L.vrs _ _ rr⟩
      | exc x h1 => exact fun p' m1 H1 c d g1 s1 q => p' m1 σ H1 c d g1 (er.mono g1) s1 q
      | bad => exact fun p' => p'
    · cases fl with
      | next => obtain ⟨σ1, H1, I1, as, q⟩ := q; obtain ⟨H2, I2, L⟩ := lock_all as I1; exact ⟨σ1, H2, I2, q H2 L⟩
      | brk => exact q
      | cont => exact q
      | ret v => exact q⟩
/-- a global text -/
theorem m_gstr {x : Str} {i : Str} {pos : Pos} (hg : Gl X x) (hm : ∃ t, X.mg x = some (.str i t)) (hd : (x == ("__debug__" : Str)) = false := by decide +kernel) : PE X (.Name x pos) (tE C X.K W (eK (.str i))) := by
  obtain ⟨t, hm⟩ := hm
  exact m_k (pe_glob (v := .str i) hg hm ⟨t, rfl⟩ hd) fun _ _ => by simp only [VR]
end
end MM
/-! M16: list +=, and small things -/
namespace MM
open PySem L2
section
variable {X : Cx} {C : Cc} {W : WX}
def lId (f : IEnv → IH → R (List IV)) : IEnv → IH → R (List IV) := fun env h => (f env h).bind fun xs h1 => .ok xs h1
def bExtV : IV → IV → IH → R IV
  | .ref k, y, h => match h[k]?, itemsL h y with
    | some (.lst xs), some ys => if xs.length + ys.length ≤ sizeLine then .ok (.ref k) (h.set k (.lst (xs ++ ys))) else .bad
    | _, _ => .bad
  | .int i, .int j, h => .ok (.int (i + j)) h
  | _, _, _ => .bad
theorem iop_extX : OpR X (inplaceOp .Add) (fun x y H Q => ∃ l b xs zs, x = .ref l ∧ y = .ref b ∧ H l = some (.lst xs) ∧ SqX X.K H b zs ∧ xs.length + zs.length ≤ sizeLine ∧ Q (.ref l) (upd H l (.lst (xs ++ zs)))) := by
  intro pins s σ H x y v u Q I rx ry h
  obtain ⟨l, b, xs, zs, rfl, rfl, hH, hB, hz, q⟩ := h
  cases rx
  cases ry
  obtain ⟨z, its, n, r, hl, e⟩ := I.lstM hH
  obtain ⟨its2, n2, r2, z2, e2⟩ := hB.obj I
  have hl2 := r2.length
  have hsz : its.toArray.size + its2.toArray.size ≤ sizeLine := by rw [List.size_toArray, List.size_toArray]; omega
  have hlong : ¬ (!its.toArray.isEmpty && Builtin.List.listTooLong (its.toArray.size + its2.toArray.size)) = true := by
    rw [notLongL hsz, Bool.and_false]
    exact Bool.false_ne_true
  refine iadd_list e e2 hlong (by rw [List.size_toArray]; omega) (by omega) ?_
  refine ⟨.ref l, _, I.lset (its' := its ++ its2) (t' := s.toks) hH e (by simp) (r.append r2) ?_, rfl, q⟩
  rw [List.length_append]
  omega
theorem im_extV : IpM X C .Add bExtV := ip_of (iop_extX.or iop_add) fun W σ m H h x y u v Q s rx ry p => by
  unfold bExtV at p
  split at p
  · split at p
    · rename_i k _ xs ys h1 h2
      split at p
      · rename_i hz
        obtain ⟨a, vs, rfl, e, q, rr⟩ := lst_at s rx h1
        obtain ⟨b, ws, rfl, q2, rr2⟩ := itemsL_rdX s ry h2
        refine .inl ⟨a, b, vs, ws, rfl, rfl, q, q2, by rw [← rr.length, ← rr2.length]; exact hz, post_set s e q (VRs.append rr rr2) (x := .ref _) ?_ p⟩
        simp only [VR]
        exact ⟨a, e, rfl⟩
      · exact p.elim
    · exact p.elim
  · simp only [rV, VR] at rx ry
    subst rx; subst ry
    exact .inr ⟨_, _, rfl, rfl, post_int s p⟩
  · exact p.elim
end
end MM
/-! M17: tuple * int, text * int, join -/
namespace MM
open PySem L2 PySem.Spec PyProof.Rows
section
variable {X : Cx}
theorem op_repN : OpR X (binaryOp .Mult) (fun x y H Q => ∃ l k xs, x = .ref l ∧ y = .int k ∧ SqT X.K H l xs ∧ xs ≠ [] ∧ 2 ≤ k ∧ k ≤ 100000 ∧ xs.length ≤ 10 ∧ ∀ p ob, H p = none → ob.dict = none → Q (.ref p) (upd H p (.frz ob (.tup (List.replicate k.toNat xs).flatten)))) := by
  intro pins s σ H x y v u Q I rx ry h
  obtain ⟨l, k, xs, rfl, rfl, hT, hne, h1, h2, hz, q⟩ := h
  cases rx
  obtain ⟨t, rfl⟩ := ry
  obtain ⟨its, r, ⟨⟨cls, dd, data, sl⟩, ho, hc, n, hd⟩, hs⟩ := I.tuple hT
  simp only at hc hd
  subst hc hd
  have hle : its.length = xs.length := r.length.symm
  have hn : its ≠ [] := fun e => hne (by
    rw [e] at hle
    exact List.eq_nil_of_length_eq_zero hle.symm)
  have hi : its.toArray.isEmpty = false := by
    cases its with
    | nil => exact absurd rfl hn
    | cons a b => rfl
  have hsz0 : its.toArray.size = xs.length := by rw [List.size_toArray, hle]
  have hm : ((its.toArray.size : Nat) : Int) * k ≤ 1000000 := by
    rw [hsz0]
    have a1 : ((xs.length : Nat) : Int) * k ≤ 10 * k := Int.mul_le_mul_of_nonneg_right (by omega) (by omega)
    omega
  have flen : (List.replicate k.toNat its).flatten.length ≤ sizeLine := by
    rw [PyProof.Rows.lm_len_rep_flat, hle, sizeLine_eq]
    have a1 : k.toNat * xs.length ≤ 100000 * 10 := Nat.mul_le_mul (by omega) hz
    omega
  have c0 : (decide (k < -(2 ^ 63)) || decide (k ≥ 2 ^ 63)) = false := by
    rw [decide_eq_false (by omega), decide_eq_false (by omega)] <;> rfl
  have c1 : (its.toArray.isEmpty || k == 1) = false := by
    rw [hi, Bool.false_or]
    exact beq_eq_false_iff_ne.mpr (by omega)
  have c2 : (decide (k ≤ 0) || its.toArray.isEmpty) = false := by
    rw [hi, Bool.or_false]
    exact decide_eq_false (by omega)
  have c4 : Builtin.Tuple.tupleTooMany (((its.toArray.size : Nat) : Int) * k) = false := by
    unfold Builtin.Tuple.tupleTooMany
    rw [sizeLine_eq]
    exact decide_eq_false (by omega)
  refine wpAny_binaryOp_repeat_ref (T := "tuple") (U := "int") (by decide) ⟨_, ho, rfl⟩ (fun s' => typeIs_int s' k t) noFill_tuple_mul F.fills_int_mul F.slot_int_rmul repeat_tuple F.slot_int_index.lookup
    (call_meets F.slot_int_rmul (typeIs_int s k t) F.entry_int_rmul (F.args_int_rmul_2 _ _) (int_rmul_tuple k t l its.toArray n dd sl)
      ⟨ho, rfl, ⟨_, ho, rfl⟩, call_meets F.slot_tuple_mul ⟨_, ho, rfl⟩ F.entry_tuple_mul (F.args_tuple_mul_2 _ _) (tuple_mulW l its.toArray n dd sl k t c0 c1 c2 (by omega) c4 (by rw [size_rep, List.size_toArray]; exact flen)) ⟨ho, ?_⟩⟩)
  rw [size_rep]
  refine ⟨.ref s.heap.objs.size, _, I.laid (t' := s.toks) (o := .frz { cls := .type "tuple", data := .seq (List.replicate k.toNat its).flatten.toArray } (.tup (List.replicate k.toNat xs).flatten)) (fun b ob q => Heap.get?_push_of_some _ q) (Nat.le_refl _) ?_, rfl, q _ _ (I.hok.fresh (Nat.le_refl _)) rfl⟩
  exact ⟨Heap.get?_push_size _ rfl, by rw [PyProof.Rows.lm_len_rep_flat, sizeLine_eq]; have a1 : k.toNat * xs.length ≤ 100000 * 10 := Nat.mul_le_mul (by omega) hz; omega, _, r.rep k.toNat, IsTup.new _ _⟩
def repS (a : Str) (k : Nat) : Str := ⟨(List.replicate k a.cps).foldl (· ++ ·) #[]⟩
theorem op_repS : OpR X (binaryOp .Mult) (fun x y H Q => ∃ a k, x = .str a ∧ y = .int k ∧ 2 ≤ k ∧ k ≤ 100000 ∧ 1 ≤ a.length ∧ a.length ≤ 10 ∧ Q (.str (repS a k.toNat)) H) := by
  intro pins s σ H x y v u Q I rx ry h
  obtain ⟨a, k, rfl, rfl, h1, h2, h3, h4, q⟩ := h
  obtain ⟨t, rfl⟩ := rx
  obtain ⟨t2, rfl⟩ := ry
  have n1 : ¬ k < 1 := by omega
  have c1 : (k == 1 || a.length == 0) = false := by
    rw [Bool.or_eq_false_iff]
    exact ⟨beq_eq_false_iff_ne.mpr (by omega), beq_eq_false_iff_ne.mpr (by omega)⟩
  have hz : a.length * k.toNat ≤ 1000000 := Nat.le_trans (Nat.mul_le_mul h4 (show k.toNat ≤ 100000 by omega)) (by decide)
  refine PySem.P.mul_str (by rw [decide_eq_false (by omega), decide_eq_false (by omega)]; rfl) (fun _ _ => ?_) (fun _ _ => ?_) ?_
  · have : (10 : Int) ≤ (2 ^ 63 - 1) / k := by
      rw [Int.le_ediv_iff_mul_le (by omega)]
      omega
    omega
  · unfold Builtin.Str.tooLong
    rw [sizeLine_eq]
    exact decide_eq_false (by omega)
  · rw [if_neg n1, if_neg (by rw [c1]; decide)]
    have hl : (repS a k.toNat).length = a.length * k.toNat := by
      unfold repS
      show ((List.replicate k.toNat a.cps).foldl (· ++ ·) #[]).size = a.cps.size * k.toNat
      have go : ∀ (m : Nat) (acc : Array Nat), ((List.replicate m a.cps).foldl (· ++ ·) acc).size = acc.size + a.cps.size * m := by
        intro m
        induction m with
        | zero => intro acc; simp
        | succ m ih => intro acc; rw [List.replicate_succ, List.foldl_cons, ih, Array.size_append, Nat.mul_succ]; omega
      rw [go]; simp
    exact ⟨by show (repS a k.toNat).length ≤ sizeLine; rw [hl, sizeLine_eq]; omega, .str _, H, I.tok _, ⟨_, rfl⟩, q⟩
end
section
variable {X : Cx} {C : Cc} {W : WX}
def mulK (x y : IV) (h : IH) : R IV := match x, y with
  | .tup xs, .int k => if xs ≠ [] ∧ 2 ≤ k ∧ k ≤ 100000 ∧ xs.length ≤ 10 then .ok (.tup (List.replicate k.toNat xs).flatten) h else .bad
  | .str a, .int k => if 2 ≤ k ∧ k ≤ 100000 ∧ 1 ≤ a.length ∧ a.length ≤ 10 then .ok (.str (repS a k.toNat)) h else .bad
  | x, y => bMul x y h
theorem om_mulV : OpM X C (binaryOp .Mult) mulK := by
  obtain ⟨r0, h0, g0⟩ := (om_mul : OpM X C (binaryOp .Mult) bMul)
  refine ⟨_, h0.or (op_repN.or op_repS), fun W σ m H h x y u v Q s rx ry p => ?_⟩
  unfold mulK at p
  split at p
  · rename_i xs k
    split at p
    · rename_i hc
      simp only [rV, VR] at rx ry
      obtain ⟨a, vs, rfl, t, rr⟩ := rx
      subst ry
      refine .inr (.inl ⟨a, k, vs, rfl, rfl, t.sq, fun e => hc.1 (List.eq_nil_of_length_eq_zero (by rw [rr.length, e]; rfl)), hc.2.1, hc.2.2.1, by rw [← rr.length]; exact hc.2.2.2, fun q ob hq hd => post_tup s p (VRs.rep rr _) hq hd⟩)
    · exact p.elim
  · split at p
    · rename_i hc
      simp only [rV, VR] at rx ry
      subst rx; subst ry
      exact .inr (.inr ⟨_, _, rfl, rfl, hc.1, hc.2.1, hc.2.2.1, hc.2.2.2, post_str s p⟩)
    · exact p.elim
  · exact .inl (g0 W σ m H h x y u v Q s rx ry p)
def strsOf (xs : List IV) : Option (List Str) := optAll (fun x => match x with
  | .str i => some i
  | _ => none) xs
theorem strsOf_map {m : List Addr} {H : Hp} : ∀ {xs : List IV} {ns : List Str} {vs : List V}, strsOf xs = some ns → VRs X.K m H xs vs → vs = ns.map V.str
  | [], ns, vs, e, r => by cases e; simp only [VRs] at r; subst r; rfl
  | x :: xs, ns, vs, e, r => by
    obtain ⟨y, ys, e1, e2, rfl⟩ := optAll_cons e
    simp only [VRs] at r
    obtain ⟨v, q, rfl, r1, r2⟩ := r
    have ih := strsOf_map (xs := xs) (ns := ys) e2 r2
    cases x with
    | str i => cases e1; simp only [VR] at r1; subst r1; rw [ih]; rfl
    | _ => cases e1
/-- a.join(ys) -/
def eJoin (f : EM) (g : IEnv → IH → R (List IV)) : EM := fun env h => (f env h).bind fun x h1 => match x with
  | .str a => (g env h1).bind fun xs h2 => match strsOf xs with
    | some ys => if (ys.map (·.length)).sum + ys.length * a.length ≤ 16777216 then .ok (.str (Txt.join a ys)) h2 else .bad
    | none => .bad
  | _ => .bad
theorem m_join {obj e : Expr} {name : Str} {apos pos : Pos} {f : EM} {g : IEnv → IH → R (List IV)} (ho : PE X obj (tE C X.K W f)) (ha : PE X e (tSq C X.K W g)) (hs : starEach (e :: []) X.env = (false, eval e X.env) :: starEach [] X.env)
    (mk : ∀ {r : V → List V → Hp → VK → Prop} {t : TA} {to : TE}, MtR X "str.join" r → PE X obj to → PA X (e :: []) t → PE X (.Call (.Attribute obj name apos) (e :: []) [] pos) (tBM X.K "str" r to t)) :
    PE X (.Call (.Attribute obj name apos) [e] [] pos) (tE C X.K W (eJoin f g)) := by
  refine pe_weak (mk mt_join ho (pa_cons ha pa_nil hs)) fun σ H Q ⟨m, env, h, er, sr, p⟩ => ⟨m, env, h, er, sr, tg_run p fun m1 H1 x hh u g1 s1 r1 p1 => ?_⟩
  cases x <;> first | exact p1.elim | skip
  rename_i a
  simp only [rV, VR] at r1
  subst r1
  refine ⟨rfl, m1, env, hh, er.mono g1, s1, tg_run p1 fun m2 H2 xs h2' us g2 s2 r2 p2 => ?_⟩
  obtain ⟨ad, vs, rfl, q, rr⟩ := r2
  split at p2
  · rename_i ys hy
    split at p2
    · rename_i hz
      have e := strsOf_map hy rr
      subst e
      exact ⟨a, ad, ys, rfl, rfl, q.imp id SqN.sq, hz, post_str s2 p2⟩
    · exact p2.elim
  · exact p2.elim
/-- a.index(b), texts -/
def mSIndex : IV → List IV → IH → R IV
  | .str a, [.str b], h => match Builtin.Str.occurrences a b 0 a.length 1 with
    | i :: _ => .ok (.int (i : Nat)) h
    | [] => .bad
  | _, _, _ => .bad
/-- a method of a text -/
def eMthS (o : IV → List IV → IH → R IV) (f : EM) (g : IEnv → IH → R (List IV)) : EM := fun env h => (f env h).bind fun x h1 => match x with
  | .str _ => (g env h1).bind fun ys h2 => o x ys h2
  | _ => .bad
theorem m_methS {id : String} {name : Str} {o : IV → List IV → IH → R IV} {obj e : Expr} {es : List Expr} {apos pos : Pos} {f : EM} {g : IEnv → IH → R (List IV)} (hm : MthM X C id o) (ho : PE X obj (tE C X.K W f)) (ha : PA X (e :: es) (tA C X.K W g))
    (mk : ∀ {r : V → List V → Hp → VK → Prop} {t : TA} {to : TE}, MtR X id r → PE X obj to → PA X (e :: es) t → PE X (.Call (.Attribute obj name apos) (e :: es) [] pos) (tBM X.K "str" r to t)) :
    PE X (.Call (.Attribute obj name apos) (e :: es) [] pos) (tE C X.K W (eMthS o f g)) := by
  obtain ⟨r, h1, h2⟩ := hm
  refine pe_weak (mk h1 ho ha) fun σ H Q ⟨m, env, h, er, sr, p⟩ => ⟨m, env, h, er, sr, tg_run p fun m1 H1 x hh u g1 s1 r1 p1 => ?_⟩
  cases x <;> first | exact p1.elim | skip
  rename_i a
  have r2 : VR X.K m1 H1 (.str a) u := r1
  simp only [VR] at r2
  subst r2
  refine ⟨rfl, m1, env, hh, er.mono g1, s1, tg_run p1 fun m2 H2 ys h2' us g2 s2 r2 p2 => ?_⟩
  exact h2 W σ m2 H2 h2' _ ys _ us Q s2 (VR.mono g2 _ _ r1) r2 p2
theorem mm_sindex : MthM X C "str.index" mSIndex := by
  refine ⟨_, mt_sindex, fun W σ m H h x ys u us Q s rx ry p => ?_⟩
  unfold mSIndex at p
  split at p
  · rename_i a b
    split at p
    · rename_i i rest ho
      obtain ⟨v, rfl, rv⟩ := one_of ry
      simp only [VR] at rx rv
      subst rx; subst rv
      exact ⟨a, b, i, rest, rfl, rfl, ho, post_int s p⟩
    · exact p.elim
  · exact p.elim
end
end MM
/-! M18: [::-1] -/
namespace MM
open PySem L2 PySem.Spec PyProof.Rows
section
variable {prog : Program} {w : World} {A : Around} {E : Value → Shared → Prop} {s : Shared}
theorem places_rev (n : Nat) : Builtin.Slice.slicePlaces ((n : Int) - 1) (-1) (-1) = n := by
  unfold Builtin.Slice.slicePlaces
  have h1 : ¬ ((-1 : Int) > 0) := by omega
  simp only [h1, if_false, show (- -1 : Int) = 1 by decide, Int.ediv_one]
  split <;> omega
theorem sliceApplied_rev {sl : Addr} {vk : Value} {n : Nat} {Q : Int × Int × Nat → Shared → Prop} (hs : s.heap.IsSliceOf sl .none .none vk) (pk : IsPart vk (some (-1)))
    (h : Q ((n : Int) - 1, -1, n) s) : wpAny (model prog w) A (Builtin.Slice.sliceApplied (.ref sl) (pure (n : Int))) Q E s := by
  obtain ⟨os, hos, hcs, hds⟩ := id hs
  unfold Builtin.Slice.sliceApplied Builtin.Slice.sliceFields
  refine wpAny_bind (wpAny_bind (wpAny_field hos hds (x := .none) rfl (wpAny_bind (wpAny_field hos hds (x := .none) rfl (wpAny_bind (wpAny_field hos hds (x := vk) rfl (wpAny_pure ?_)))))))
  refine wpAny_bind (HT.slicePart_ pk ?_)
  show wpAny _ _ (if ((-1 : Int) == 0) = true then _ else _) _ _ s
  rw [if_neg (by decide)]
  refine wpAny_bind (slicePart_none (wpAny_bind (slicePart_none (wpAny_bind (wpAny_pure ?_)))))
  show wpAny _ _ (pure ((n : Int) - 1, (-1 : Int), Builtin.Slice.slicePlaces ((n : Int) - 1) (-1) (-1))) _ _ s
  rw [places_rev]
  exact wpAny_pure h
theorem pick_rev (xs : Array Value) : ((List.range xs.size).filterMap fun (k : Nat) => xs[((xs.size : Int) - 1 + (k : Int) * -1).toNat]?).toArray = xs.toList.reverse.toArray := by
  have e : ((List.range xs.size).filterMap fun (k : Nat) => xs[((xs.size : Int) - 1 + (k : Int) * -1).toNat]?) = ((List.range xs.size).map fun k => xs.size - 1 - k).filterMap (xs[·]?) := by
    have z : ∀ (F : Nat → Option Value) (l : List Nat), l.filterMap F = (l.map F).filterMap id := fun F l => (List.filterMap_map (f := F) (g := id)).symm
    rw [List.filterMap_map, z, z ((xs[·]?) ∘ fun k => xs.size - 1 - k)]
    congr 1
    refine List.map_congr_left fun k hk => ?_
    have := List.mem_range.mp hk
    have e2 : ((xs.size : Int) - 1 + (k : Int) * -1).toNat = xs.size - 1 - k := by omega
    rw [e2]
    rfl
  rw [e, PySem.W.krv_range, List.filterMap_reverse, PySem.W.krv_all]
theorem getItem_tuple_rev {t sl : Addr} {items : Array Value} {vk : Value} {Q : Value → Shared → Prop} (ht : IsTup s.heap t items) (hs : s.heap.IsSliceOf sl .none .none vk) (pk : IsPart vk (some (-1)))
    (h : Q (.ref s.heap.objs.size) { s with heap := s.heap.push { cls := .type "tuple", data := .seq items.toList.reverse.toArray } })
    (hsz : items.size ≤ sizeLine) : wpAny (model prog w) A (getItem (.ref t) (.ref sl)) Q E s := by
  have htake : sizeOk (.seq items.toList.reverse.toArray) := by
    show items.toList.reverse.toArray.size ≤ sizeLine
    rw [List.size_toArray, List.length_reverse, Array.length_toList]
    omega
  obtain ⟨os, hos, hcs, hds⟩ := id hs
  have hTs : s.TypeIs (.ref sl) "slice" := ⟨os, hos, hcs⟩
  unfold getItem
  try with_reducible refine wpAny_holding ?_
  first | refine wpAny_bind (wpAny_pure ?_) | skip
  refine wpAny_bind (wpAny_sequenceKey ht.typeIs (by decide) ?_)
  refine wpAny_bind (wpAny_callSpecial?_slot (name := Str.ofString "__getitem__") ht.typeIs PyProof.Rows.slot_tuple_getitem
    (wpAny_call_entry PyProof.Rows.slot_tuple_getitem ht.typeIs entry_tuple_getitem ?_ (args_tuple_getitem _ _)))
  show wpAny _ _ (Builtin.Tuple.tupleItemsOf (.ref t) >>= _) _ _ s
  refine wpAny_bind (tupleItemsOf_ ht ?_)
  refine wpAny_bind (wpAny_typeOf hTs ?_)
  rw [if_pos (by decide)]
  refine wpAny_bind (sliceApplied_rev hs pk ?_)
  have hno : ¬ ((((items.size : Int) - 1) == 0 && (-1 : Int) == 1 && items.size == items.size) = true) := by
    intro q
    rw [Bool.and_eq_true, Bool.and_eq_true] at q
    exact absurd q.1.2 (by decide)
  show wpAny _ _ (if (((items.size : Int) - 1) == 0 && (-1 : Int) == 1 && items.size == items.size) = true then _ else _) _ _ s
  rw [if_neg hno, pick_rev]
  first
    | exact wpAny_bind (m := Builtin.Tuple.tupleExact _) (wpAny_newObj_type (wpAny_pure ⟨_, rfl, wpAny_pure h⟩) htake)
    | exact wpAny_bind (m := Builtin.Tuple.tupleExact _) (wpAny_newObj_type (wpAny_bind (wpAny_pure (wpAny_pure ⟨_, rfl, wpAny_pure h⟩))) htake)
    | exact wpAny_bind (wpAny_bind (m := Builtin.Tuple.tupleExact _) (wpAny_newObj_type (wpAny_pure (wpAny_pure ⟨_, rfl, wpAny_pure h⟩)) htake))
    | exact wpAny_bind (wpAny_bind (m := Builtin.Tuple.tupleExact _) (wpAny_newObj_type (wpAny_pure ⟨_, rfl, wpAny_pure h⟩) htake))
end
section
variable {X : Cx} {C : Cc} {W : WX} {e : Expr} {te : TE} {p2 pos : Pos}
def RvR (X : Cx) (r : V → Hp → VK → Prop) : Prop :=
  ∀ (pins : List (Addr × Obj)) (s : Shared) (σ : L2.St) (H : Hp) (x : V) (v vk : Value) (sl : Addr) (Q : VK), Inv X pins σ H s → RelV x v → s.heap.IsSliceOf sl .none .none vk → IsPart vk (some (-1)) → r x H Q →
    ∃ T id, typeLookup (.type T) "__getitem__" = pure (some (.builtin id)) ∧ s.TypeIs v T ∧ wpAny (model X.prog X.w) X.A (getItem v (.ref sl)) (EP X pins σ Q) X.xe s
theorem RvR.or {r r' : V → Hp → VK → Prop} (h : RvR X r) (h' : RvR X r') : RvR X (fun x H Q => r x H Q ∨ r' x H Q) := by
  intro pins s σ H x v vk sl Q I rx hs pk q
  rcases q with q | q
  · exact h pins s σ H x v vk sl Q I rx hs pk q
  · exact h' pins s σ H x v vk sl Q I rx hs pk q
theorem pe_rev {r : V → Hp → VK → Prop} {k : Expr} {tk : TO} (hr : RvR X r) (he : PE X e te) (hk : PO X (some k) tk) : PE X (.Subscript e (.Slice none none (some k) p2) pos) (fun σ H Q => te σ H fun x H1 => tk σ H1 fun u H2 => u = some (-1) ∧ r x H2 Q) := by
  refine ⟨fun pins s σ H Q I h => ?_⟩
  refine Subscript_ (thn (he.run pins s σ H _ I h) fun v s1 ⟨x, H1, I1, r1, q1⟩ => ?_)
  refine wpAny_Slice ?_
  rw [evalPart_none]
  refine wpAny_pure (wpAny_pure (thn (hk.run pins s1 σ H1 _ I1 q1) fun vk s2 ⟨u, H2, I2, pk, hu, q2⟩ => ?_))
  subst hu
  have I4 : Inv X pins σ H2 { s2 with heap := s2.heap.push { cls := .type "slice", data := .fields #[.none, .none, vk] } } := I2.kept (t' := s2.toks) fun b ob q => Heap.get?_push_of_some _ q
  obtain ⟨T, id, hT, ht, hg⟩ := hr pins { s2 with heap := s2.heap.push { cls := .type "slice", data := .fields #[.none, .none, vk] } } σ H2 x v vk s2.heap.objs.size Q I4 r1 (Heap.IsSliceOf.new ..) pk q2
  show wpAny (model X.prog X.w) X.A (subscriptTail e (.Slice none none (some k) p2) v (.ref s2.heap.objs.size)) (EP X pins σ Q) X.xe { s2 with heap := s2.heap.push { cls := .type "slice", data := .fields #[.none, .none, vk] } }
  exact tail_any (ops := [v, .ref s2.heap.objs.size]) ht hT hg (by with_unfolding_all rfl)
theorem rv_tup : RvR X (fun x H Q => ∃ a xs, x = .ref a ∧ SqT X.K H a xs ∧ ∀ p ob, H p = none → ob.dict = none → Q (.ref p) (upd H p (.frz ob (.tup xs.reverse)))) := by
  intro pins s σ H x v vk sl Q I rx hs pk h
  obtain ⟨a, xs, rfl, hx, q2⟩ := h
  cases rx
  obtain ⟨its, r, ht, hz⟩ := I.tuple hx
  refine ⟨"tuple", _, PyProof.Rows.slot_tuple_getitem.lookup, ht.typeIs, ?_⟩
  have hlen : its.toArray.size = xs.length := by rw [List.size_toArray]; exact r.length.symm
  refine getItem_tuple_rev ht hs pk ?_ (by rw [hlen]; exact hz)
  refine ⟨.ref s.heap.objs.size, _, I.laid (t' := s.toks) (o := .frz { cls := .type "tuple", data := .seq its.reverse.toArray } (.tup xs.reverse)) (fun b ob q => Heap.get?_push_of_some _ q) (Nat.le_refl _) ?_, rfl, q2 _ _ (I.hok.fresh (Nat.le_refl _)) rfl⟩
  exact ⟨Heap.get?_push_size _ rfl, by rw [List.length_reverse]; exact hz, _, r.reverse, IsTup.new _ _⟩
theorem rv_list : RvR X (fun x H Q => ∃ a xs, x = .ref a ∧ SqL X.K H a xs ∧ ∀ p, H p = none → Q (.ref p) (upd H p (.lst xs.reverse))) := by
  intro pins s σ H x v vk sl Q I rx hs pk h
  obtain ⟨a, xs, rfl, hx, q⟩ := h
  cases rx
  obtain ⟨its, r, ht, hz⟩ := I.list hx
  have hlen := r.length
  refine ⟨"list", _, slot_list_getitem.lookup, ht.isList.typeIs, ?_⟩
  refine wpAny_getItem_list_slice ht.isList hs .none .none pk (by simp) ?_ (by rw [List.size_toArray] <;> omega)
  rw [PySem.W.krv_pick]
  refine ⟨.ref s.heap.objs.size, _, I.laid (t' := s.toks) (o := .lst xs.reverse) (fun b ob q => Heap.get?_push_of_some _ q) (Nat.le_refl _) ?_, rfl, q _ (I.hok.fresh (Nat.le_refl _))⟩
  exact ⟨by rw [List.length_reverse]; exact hz, _, 0, r.reverse, Heap.get?_push_size _ rfl⟩
def eRevT (f : EM) (u : IEnv → IH → R (Option Int)) : EM := fun env h => (f env h).bind fun x h1 => (u env h1).bind fun a h2 => match x with
  | .tup xs => if a = some (-1) then .ok (.tup xs.reverse) h2 else .bad
  | _ => .bad
def lRevL (f : EM) (u : IEnv → IH → R (Option Int)) : IEnv → IH → R (List IV) := fun env h => (f env h).bind fun x h1 => (u env h1).bind fun a h2 => match x with
  | .tup _ => .bad
  | x => match items h2 x with
    | some xs => if a = some (-1) then .ok xs.reverse h2 else .bad
    | none => .bad
theorem m_revT {e k : Expr} {f : EM} {u : IEnv → IH → R (Option Int)} {p2 pos : Pos} (he : PE X e (tE C X.K W f)) (hk : PO X (some k) (tOI C X.K W u)) :
    PE X (.Subscript e (.Slice none none (some k) p2) pos) (tE C X.K W (eRevT f u)) :=
  pe_weak (pe_rev rv_tup he hk) fun σ H Q ⟨m, env, h, er, sr, p⟩ => ⟨m, env, h, er, sr, tg_run p fun m1 H1 x h1 u1 g1 s1 r1 p1 => ⟨m1, env, h1, er.mono g1, s1, tg_run p1 fun m2 H2 a h2 u2 g2 s2 r2 p2 => by
      subst r2
      have r4 := VR.mono g2 _ _ r1
      split at p2
      · rename_i xs
        simp only [rV, VR] at r4
        obtain ⟨ad, vs, rfl, t, rr⟩ := r4
        split at p2
        · rename_i ha
          exact ⟨ha, ad, vs, rfl, t.sq, fun _ ob hq hd => post_tup s2 p2 rr.reverse hq hd⟩
        · exact p2.elim
      · exact p2.elim⟩⟩
theorem m_revL {e k : Expr} {f : EM} {u : IEnv → IH → R (Option Int)} {p2 pos : Pos} (he : PE X e (tE C X.K W f)) (hk : PO X (some k) (tOI C X.K W u)) :
    PE X (.Subscript e (.Slice none none (some k) p2) pos) (tL C X.K W (lRevL f u)) :=
  pe_weak (pe_rev rv_list he hk) fun σ H Q ⟨m, env, h, er, sr, p⟩ => ⟨m, env, h, er, sr, tg_run p fun m1 H1 x h1 u1 g1 s1 r1 p1 => ⟨m1, env, h1, er.mono g1, s1, tg_run p1 fun m2 H2 a h2 u2 g2 s2 r2 p2 => by
      subst r2
      have r4 := VR.mono g2 _ _ r1
      split at p2
      · exact p2.elim
      · rename_i x' hx
        split at p2
        · rename_i xs hi
          have q : ∃ ad us, u1 = .ref ad ∧ SqL X.K H2 ad us ∧ VRs X.K m2 H2 xs us := by
            cases x with
            | fz ys =>
              simp only [rV, VR] at r4
              obtain ⟨ad, vs, rfl, q, rr⟩ := r4
              cases hi
              exact ⟨ad, _, rfl, q.list, rr⟩
            | ref k =>
              simp only [rV, VR] at r4
              obtain ⟨ad, e1, rfl⟩ := r4
              simp only [items] at hi
              split at hi
              · rename_i ys hk
                cases hi
                obtain ⟨a', vs, e2, q, rr⟩ := s2.get hk
                rw [e1] at e2; cases e2
                exact ⟨ad, vs, rfl, .of q, rr⟩
              · cases hi
            | tup ys => exact absurd rfl (hx ys)
            | non => cases hi
            | bl _ => cases hi
            | int _ => cases hi
            | str _ => cases hi
          obtain ⟨ad, us, rfl, q, rr⟩ := q
          split at p2
          · rename_i ha
            exact ⟨ha, ad, us, rfl, q, fun w hw => post_lst s2 p2 rr.reverse hw⟩
          · exact p2.elim
        · exact p2.elim⟩⟩
def lRev (f : EM) : IEnv → IH → R (List IV) := fun env h => (f env h).bind fun x h1 => match x with
  | .tup _ => .bad
  | x => match items h1 x with
    | some xs => .ok xs.reverse h1
    | none => .bad
theorem m_lrev {e k : Expr} {f : EM} {u : IEnv → IH → R (Option Int)} {p2 pos : Pos} (he : PE X e (tE C X.K W f)) (hk : PO X (some k) (tOI C X.K W u)) (hu : ∀ env h, u env h = .ok (some (-1)) h) :
    PE X (.Subscript e (.Slice none none (some k) p2) pos) (tL C X.K W (lRev f)) :=
  pe_by fun env h => by
    refine ⟨_, m_revL he hk, ?_⟩
    unfold lRev lRevL
    cases hf : f env h with
    | ok x h1 =>
      dsimp only [R.bind]
      rw [hu]
      dsimp only
      cases x with
      | tup s => rfl
      | _ => dsimp only; cases items h1 _ <;> first | rfl | (dsimp only; rw [if_pos rfl])
    | exc _ _ => rfl
    | bad => rfl
def revK : IV → IH → R IV := fun x h => match x with
  | .tup xs => .ok (.tup xs.reverse) h
  | x => match items h x with
    | some xs => .ok (.fz xs.reverse) h
    | none => .bad
def eRev (f : EM) : EM := fun env h => (f env h).bind revK
theorem m_rev {e k : Expr} {f : EM} {u : IEnv → IH → R (Option Int)} {p2 pos : Pos} (he : PE X e (tE C X.K W f)) (hk : PO X (some k) (tOI C X.K W u)) (hu : ∀ env h, u env h = .ok (some (-1)) h) :
    PE X (.Subscript e (.Slice none none (some k) p2) pos) (tE C X.K W (eRev f)) :=
  pe_by fun env h => by
    by_cases hy : ∃ s h1, f env h = .ok (.tup s) h1
    · obtain ⟨s, h1, hf⟩ := hy
      exact ⟨_, m_revT he hk, by unfold eRev eRevT revK; rw [hf]; dsimp only [R.bind]; rw [hu]; dsimp only; rw [if_pos rfl]⟩
    · refine ⟨_, m_fz (m_revL he hk), ?_⟩
      unfold eRev eFz lRevL revK
      cases hf : f env h with
      | ok x h1 =>
        dsimp only [R.bind]
        rw [hu]
        dsimp only
        cases x with
        | tup s => exact absurd ⟨s, h1, hf⟩ hy
        | _ => dsimp only; cases items h1 _ <;> first | rfl | (dsimp only; rw [if_pos rfl])
      | exc _ _ => rfl
      | bad => rfl
end
end MM
/-! M19: xs.index(y, k) of a list -/
namespace MM
open PySem L2 PySem.Spec PyProof.Rows
section
variable {X : Cx} {C : Cc} {W : WX}
theorem mt_index3 : MtR X "list.index" (fun x xs H Q => ∃ (a : Addr) (ys : List V) (y : V) (k : Int) (j : Nat) (z : V), x = V.ref a ∧ xs = [y, .int k] ∧ 0 ≤ k ∧ SqL X.K H a ys ∧ flatV y = true ∧ ys.all flatV = true ∧ k.toNat ≤ j ∧ ys[j]? = some z ∧ eqV z y = true ∧
  (∀ (m : Nat) (z' : V), k.toNat ≤ m → m < j → ys[m]? = some z' → eqV z' y = false) ∧ Q (.int (j : Nat)) H) := by
  intro pins s σ H x xs v us Q I rx rxs h
  obtain ⟨a, ys, y, k, j, z, rfl, rfl, k0, hs, fy, fys, kj, hz, hzj, hno, q⟩ := h
  cases rx
  cases rxs with
  | cons ry rt =>
    rename_i uy ut
    cases rt with
    | cons rk rt =>
    cases rt
    obtain ⟨t, rfl⟩ := rk
    obtain ⟨its, rv, ⟨⟨cls, dd, data, sl⟩, n, ho, hc, hdn, hd⟩, hlen⟩ := I.list hs
    simp only at hc hd
    subst hc hd
    obtain ⟨u, hu, ru⟩ := rv.get hz
    obtain ⟨hjl, hje⟩ := List.getElem?_eq_some_iff.mp hu
    have hvl := rv.length
    have hj : j < its.toArray.size := by simpa using hjl
    have hsl := sizeLine_eq
    refine call_meets PySem.F.slot_list_index ⟨_, ho, rfl⟩ PySem.F.entry_list_index (PySem.F.args_list_index_3 _ _ _)
      (SeqAt.list_index3_found a its.toArray n dd sl uy (fun i => if h : i < its.toArray.size then eqU y its.toArray[i] else false) k t j hj (by rw [SeqAt.searchFrom_nonneg k0]; exact kj) (by omega) ?_ ?_) ⟨ho, fun i hi => ?_, ?_⟩
    · have e1 : its.toArray[j] = u := by simpa using hje
      simp only [dif_pos hj]
      rw [e1, eqU_of ru (flat_at fys hz)]
      exact hzj
    · intro m hm hmk hmj
      rw [SeqAt.searchFrom_nonneg k0] at hmk
      have hml : m < its.length := by simpa using hm
      have hmy : m < ys.length := by omega
      have hy' : ys[m]? = some ys[m] := List.getElem?_eq_getElem hmy
      obtain ⟨u2, hu2, ru2⟩ := rv.get hy'
      obtain ⟨_, hme⟩ := List.getElem?_eq_some_iff.mp hu2
      have e1 : its.toArray[m] = u2 := by simpa using hme
      simp only [dif_pos hm]
      rw [e1, eqU_of ru2 (flat_at fys hy')]
      exact hno m _ hmk hmj hy'
    · simp only [dif_pos hi]
      exact mem_eqAt ry fy rv fys _ (by simp)
    · exact ⟨.int (j : Nat), H, I.tok _, ⟨_, rfl⟩, q⟩
/-- xs.index(y, k) -/
def idx3 (g : IEnv → IH → R (List IV)) (env : IEnv) : IV → IH → R IV := fun x h1 => match itemsL h1 x with
  | some _ => (g env h1).bind fun ys h2 => match ys with
    | [y, .int k] => match itemsL h2 x with
      | some xs => if 0 ≤ k ∧ flat y = true ∧ xs.all flat = true then match idxOf y (xs.drop k.toNat) with
        | some j => .ok (.int ((k.toNat + j : Nat) : Int)) h2
        | none => .bad else .bad
      | none => .bad
    | _ => .bad
  | none => .bad
def eIdx3 (f : EM) (g : IEnv → IH → R (List IV)) : EM := fun env h => (f env h).bind (idx3 g env)
theorem two_of {K : PySem.W.Frag} {m : List Addr} {H : Hp} {y z : IV} {us : List V} (r : VRs K m H [y, z] us) : ∃ v w, us = [v, w] ∧ VR K m H y v ∧ VR K m H z w := by
  simp only [VRs] at r
  obtain ⟨v, r1, rfl, rv, w, r2, rfl, rw_, rfl⟩ := r
  exact ⟨v, w, rfl, rv, rw_⟩
theorem m_idx3 {obj e e2 : Expr} {name : Str} {apos pos : Pos} {f : EM} {g : IEnv → IH → R (List IV)} (ho : PE X obj (tE C X.K W f)) (ha : PA X [e, e2] (tA C X.K W g))
    (mk : ∀ {r : V → List V → Hp → VK → Prop} {t : TA} {to : TE}, MtR X "list.index" r → PE X obj to → PA X [e, e2] t → PE X (.Call (.Attribute obj name apos) [e, e2] [] pos) (tBM X.K "list" r to t)) :
    PE X (.Call (.Attribute obj name apos) [e, e2] [] pos) (tE C X.K W (eIdx3 f g)) := by
  refine pe_weak (mk mt_index3 ho ha) fun σ H Q ⟨m, env, h, er, sr, p⟩ => ⟨m, env, h, er, sr, tg_run p fun m1 H1 x hh u g1 s1 r1 p1 => ?_⟩
  unfold idx3 at p1
  split at p1
  · rename_i xs0 hi0
    obtain ⟨a, vs, rfl, q, rr⟩ := itemsL_rd s1 r1 hi0
    refine ⟨.inl ⟨rfl, _, q⟩, m1, env, hh, er.mono g1, s1, tg_run p1 fun m2 H2 ys h2' us g2 s2 r2 p2 => ?_⟩
    split at p2
    · rename_i y k
      split at p2
      · rename_i xs hi
        split at p2
        · rename_i hf
          split at p2
          · rename_i j hj
            obtain ⟨b, vs2, hb, q2, rr2⟩ := itemsL_rd s2 (VR.mono g2 _ _ r1) hi
            cases hb
            obtain ⟨v, w0, rfl, rv, rk⟩ := two_of r2
            simp only [VR] at rk
            subst rk
            obtain ⟨z, h1, h2, h3⟩ := idxOf_get hj
            rw [List.getElem?_drop] at h1
            obtain ⟨w, h4, rw'⟩ := rr2.get h1
            have fz : flat z = true := List.all_eq_true.mp hf.2.2 z (List.mem_of_getElem? h1)
            refine ⟨a, vs2, v, k, k.toNat + j, w, rfl, rfl, hf.1, q2, flat_of rv hf.2.1, flats_of rr2 hf.2.2, Nat.le_add_right _ _, h4, by rw [eqF_of rw' rv fz hf.2.1]; exact h2, fun i w' hk hi hw => ?_, post_int s2 p2⟩
            obtain ⟨z', h5⟩ : ∃ z', xs[i]? = some z' := ⟨xs[i]'(by have := (List.getElem?_eq_some_iff.mp h1).1; omega), List.getElem?_eq_getElem _⟩
            obtain ⟨w2, h6, rw2⟩ := rr2.get h5
            rw [hw] at h6; cases h6
            have fz' : flat z' = true := List.all_eq_true.mp hf.2.2 z' (List.mem_of_getElem? h5)
            rw [eqF_of rw2 rv fz' hf.2.1]
            exact h3 (i - k.toNat) z' (by omega) (by rw [List.getElem?_drop, show k.toNat + (i - k.toNat) = i by omega]; exact h5)
          · exact p2.elim
        · exact p2.elim
      · exact p2.elim
    · exact p2.elim
  · exact p1.elim
end
end MM
/-! M20: xs.index(y), data of any depth -/
namespace MM
open PySem L2 PySem.Spec PyProof.Rows
section
variable {X : Cx} {C : Cc} {W : WX}
/-- the first place of an equal one -/
def fst_ (d : PyData) : List PyData → Option Nat
  | [] => none
  | z :: zs => if PyData.eqv z d = true then some 0 else (fst_ d zs).map (· + 1)
theorem fst_get {d : PyData} : ∀ {ds : List PyData} {j : Nat}, fst_ d ds = some j → ∃ z, ds[j]? = some z ∧ PyData.eqv z d = true ∧ ∀ (m : Nat) (z' : PyData), m < j → ds[m]? = some z' → PyData.eqv z' d = false
  | [], j, h => by cases h
  | z :: zs, j, h => by
    unfold fst_ at h
    by_cases e : PyData.eqv z d = true
    · rw [if_pos e] at h
      cases h
      exact ⟨z, rfl, e, fun m _ hm => absurd hm (Nat.not_lt_zero m)⟩
    · rw [if_neg e] at h
      cases hj : fst_ d zs with
      | none => rw [hj] at h; cases h
      | some i =>
        rw [hj] at h
        cases h
        obtain ⟨w, q1, q2, q3⟩ := fst_get hj
        refine ⟨w, q1, q2, fun m z' hm hz => ?_⟩
        cases m with
        | zero => cases hz; exact Bool.eq_false_iff.mpr e
        | succ m => exact q3 m z' (by have hm : m + 1 < i + 1 := hm; omega) hz
def idxD (g : IEnv → IH → R (List IV)) (env : IEnv) : IV → IH → R IV := fun x h1 => match itemsL h1 x with
  | some _ => (g env h1).bind fun ys h2 => match ys with
    | [y] => match toD h2 66 x with
      | some (.list ds) => match toD h2 66 y with
        | some d => if SeqAt.shaped (.list ds) = true ∧ SeqAt.shaped d = true then match fst_ d ds with
          | some j => .ok (.int j) h2
          | none => .bad else .bad
        | none => .bad
      | _ => .bad
    | _ => .bad
  | none => .bad
theorem m_idxD (hu : X.A.units + 65 < cLine) {obj e : Expr} {es : List Expr} {name : Str} {apos pos : Pos} {f : EM} {g : IEnv → IH → R (List IV)} (ho : PE X obj (tE C X.K W f)) (ha : PA X (e :: es) (tA C X.K W g))
    (mk : ∀ {r : V → List V → Hp → VK → Prop} {t : TA} {to : TE}, MtR X "list.index" r → PE X obj to → PA X (e :: es) t → PE X (.Call (.Attribute obj name apos) (e :: es) [] pos) (tBM X.K "list" r to t)) :
    PE X (.Call (.Attribute obj name apos) (e :: es) [] pos) (tE C X.K W fun env h => (f env h).bind (idxD g env)) := by
  refine pe_weak (mk (mt_indexD hu) ho ha) fun σ H Q ⟨m, env, h, er, sr, p⟩ => ⟨m, env, h, er, sr, tg_run p fun m1 H1 x hh u g1 s1 r1 p1 => ?_⟩
  unfold idxD at p1
  split at p1
  · rename_i xs0 hi0
    obtain ⟨a, vs, rfl, q, rr⟩ := itemsL_rd s1 r1 hi0
    refine ⟨.inl ⟨rfl, _, q⟩, m1, env, hh, er.mono g1, s1, tg_run p1 fun m2 H2 ys h2' us g2 s2 r2 p2 => ?_⟩
    split at p2
    · rename_i y
      split at p2
      · rename_i ds hx
        split at p2
        · rename_i d hd
          split at p2
          · rename_i hf
            split at p2
            · rename_i j hj
              obtain ⟨v, rfl, rv⟩ := one_of r2
              obtain ⟨z, h1, h2, h3⟩ := fst_get hj
              exact ⟨a, v, d, ds, j, z, rfl, rfl, toD_dp s2 66 x _ _ (VR.mono g2 _ _ r1) hx, toD_dp s2 66 y _ _ rv hd, hf.1, hf.2, h1, h2, h3, post_int s2 p2⟩
            · exact p2.elim
          · exact p2.elim
        · exact p2.elim
      · exact p2.elim
    · exact p2.elim
  · exact p1.elim
/-- x.index(y): flat items, or by their data -/
def idxA (g : IEnv → IH → R (List IV)) (env : IEnv) : IV → IH → R IV := fun x h1 => match g env h1 with
  | .ok [y] h2 => if flat y = true then idxK g env x h1 else idxD g env x h1
  | _ => idxK g env x h1
def eIdxA (f : EM) (g : IEnv → IH → R (List IV)) : EM := fun env h => (f env h).bind (idxA g env)
theorem m_idxA (hu : X.A.units + 65 < cLine) {obj e : Expr} {es : List Expr} {name : Str} {apos pos : Pos} {f : EM} {g : IEnv → IH → R (List IV)} (ho : PE X obj (tE C X.K W f)) (ha : PA X (e :: es) (tA C X.K W g)) 
    (mk : ∀ {r : V → List V → Hp → VK → Prop} {t : TA} {to : TE}, MtR X "list.index" r → PE X obj to → PA X (e :: es) t → PE X (.Call (.Attribute obj name apos) (e :: es) [] pos) (tBM X.K "list" r to t))
    (mk2 : ∀ {r : V → List V → Hp → VK → Prop} {t : TA} {to : TE}, MtR X "tuple.index" r → PE X obj to → PA X (e :: es) t → PE X (.Call (.Attribute obj name apos) (e :: es) [] pos) (tBT X.K r to t)) :
    PE X (.Call (.Attribute obj name apos) (e :: es) [] pos) (tE C X.K W (eIdxA f g)) :=
  pe_by fun env h => by
    by_cases hx : ∃ x h1 y h2, f env h = .ok x h1 ∧ g env h1 = .ok [y] h2 ∧ flat y ≠ true
    · obtain ⟨x, h1, y, h2, hf, hg, hn⟩ := hx
      refine ⟨_, m_idxD hu ho ha mk, ?_⟩
      unfold eIdxA idxA
      rw [hf]
      dsimp only [R.bind]
      rw [hg]
      dsimp only
      rw [if_neg hn]
    · refine ⟨_, m_idxV ho ha mk mk2, ?_⟩
      unfold eIdxA eIdx idxA
      cases hf : f env h with
      | ok x h1 =>
        dsimp only [R.bind]
        split
        · rename_i y h2 hg
          rw [if_pos (Classical.byContradiction fun hn => hx ⟨x, h1, y, h2, hf, hg, hn⟩)]
        · rfl
      | exc _ _ => rfl
      | bad => rfl
end
end MM
/-! M21: tuple * 1, the truth of a list -/
namespace MM
open PySem L2 PySem.Spec PyProof.Rows
theorem tuple_mul1 (l : Addr) (items : Array Value) (n : Nat) (sl : Array (Option Value)) (dd : Option Addr) (u : Tok) :
    Meets (Builtin.«tuple.__mul__» ⟨[.ref l, .int 1 u], []⟩) (fun _ R s => s.heap.get? l = some { cls := .type "tuple", dict := dd, data := .seq items n, slots := sl } ∧
      R (.ok (.ret (Value.ref l))) s) :=
  .of_wp fun prog w A R s h => by
    obtain ⟨hp, g, d, tk, os⟩ := s
    obtain ⟨hl, h⟩ := h
    have f1 := AutoSeq1.idx_int
    wp_walk using wpAny_loadPart' hl
    repeat (first
      | (refine wpAny_ite_false (decide_eq_false (by decide)) ?_; wp_walk using wpAny_loadPart' hl)
      | (refine wpAny_ite_true (decide_eq_true (by simp)) ?_; wp_walk using wpAny_loadPart' hl))
    exact ⟨_, rfl, h⟩
section
variable {X : Cx} {C : Cc} {W : WX}
theorem op_rep1 : OpR X (binaryOp .Mult) (fun x y H Q => ∃ l xs, x = .ref l ∧ y = .int 1 ∧ SqT X.K H l xs ∧ Q (.ref l) H) := by
  intro pins s σ H x y v u Q I rx ry h
  obtain ⟨l, xs, rfl, rfl, hT, q⟩ := h
  cases rx
  obtain ⟨t, rfl⟩ := ry
  obtain ⟨its, r, ⟨⟨cls, dd, data, sl⟩, ho, hc, n, hd⟩, hs⟩ := I.tuple hT
  simp only at hc hd
  subst hc hd
  refine wpAny_binaryOp_repeat_ref (T := "tuple") (U := "int") (by decide) ⟨_, ho, rfl⟩ (fun s' => typeIs_int s' 1 t) noFill_tuple_mul F.fills_int_mul F.slot_int_rmul repeat_tuple F.slot_int_index.lookup
    (call_meets F.slot_int_rmul (typeIs_int s 1 t) F.entry_int_rmul (F.args_int_rmul_2 _ _) (int_rmul_tuple 1 t l its.toArray n dd sl)
      ⟨ho, rfl, ⟨_, ho, rfl⟩, call_meets F.slot_tuple_mul ⟨_, ho, rfl⟩ F.entry_tuple_mul (F.args_tuple_mul_2 _ _) (tuple_mul1 l its.toArray n sl dd t) ⟨ho, ?_⟩⟩)
  exact ⟨.ref l, H, I, rfl, q⟩
def mulT (x y : IV) (h : IH) : R IV := match x, y with
  | .tup xs, .int k => if k = 1 then .ok (.tup xs) h else mulK (.tup xs) (.int k) h
  | x, y => mulK x y h
theorem om_mulT : OpM X C (binaryOp .Mult) mulT := by
  obtain ⟨r0, h0, g0⟩ := (om_mulV : OpM X C (binaryOp .Mult) mulK)
  refine ⟨_, h0.or op_rep1, fun W σ m H h x y u v Q s rx ry p => ?_⟩
  unfold mulT at p
  split at p
  · rename_i xs k
    split at p
    · rename_i hk
      subst hk
      have rx' := rx
      simp only [rV, VR] at rx ry
      obtain ⟨a, vs, rfl, t, rr⟩ := rx
      subst ry
      exact .inr ⟨a, vs, rfl, rfl, t.sq, p m H _ (Go.refl ..) s rx'⟩
    · exact .inl (g0 W σ m H h _ _ u v Q s rx ry p)
  · exact .inl (g0 W σ m H h _ _ u v Q s rx ry p)
/-- the truth of a bool or a list -/
def toV (f : EM) : IEnv → IH → R Bool := fun env h => (f env h).bind fun x h1 => match x with
  | .bl b => .ok b h1
  | x => match itemsL h1 x with
    | some xs => .ok (!xs.isEmpty) h1
    | none => .bad
theorem m_truV {e : Expr} {f : EM} (h : PE X e (tE C X.K W f)) (he : ∀ whole, isTrue e X.env whole = (do let v ← whole; standAt e.pos; holding [v] (truthy v))) : PT X e (tT C X.K W (toV f)) :=
  pt_weak (pt_truth h he) fun σ H Q ⟨m, env, h, er, sr, p⟩ => ⟨m, env, h, er, sr, tg_run p fun m1 H1 x h1 u g1 s1 r1 p1 => by
    split at p1
    · simp only [rV, VR] at r1
      subst r1
      exact ⟨_, rfl, p1 m1 H1 _ (Go.refl ..) s1 rfl⟩
    · split at p1
      · rename_i xs hi
        obtain ⟨a, vs, rfl, q, rr⟩ := itemsL_rd s1 r1 hi
        refine ⟨!vs.isEmpty, .inl ⟨vs, q, rfl⟩, ?_⟩
        have e : (!vs.isEmpty) = !xs.isEmpty := by
          have := rr.length
          cases xs <;> cases vs <;> simp_all
        rw [e]
        exact p1 m1 H1 _ (Go.refl ..) s1 rfl
      · exact p1.elim⟩
end
end MM
namespace MM
open PySem L2 PySem.Spec PyProof.Rows
section
variable {X : Cx} {C : Cc} {W : WX}
/-! xs.count(y): data of any depth -/
abbrev nCnt (d : PyData) (ds : List PyData) : IV := .int ((ds.countP fun z => PyData.eqv z d : Nat) : Int)
theorem mt_cntL (hu : X.A.units + 65 < cLine) : MtR X "list.count" (fun x xs H Q => ∃ (a : Addr) (y : V) (d : PyData) (ds : List PyData), x = V.ref a ∧ xs = [y] ∧ Dp X.K H (V.ref a) (.list ds) ∧ Dp X.K H y d ∧
    SeqAt.shaped (.list ds) = true ∧ SeqAt.shaped d = true ∧ Q (.int ((ds.countP fun z => PyData.eqv z d : Nat) : Int)) H) := by
  intro pins s σ H x xs v us Q I rx rxs h
  obtain ⟨a, y, d, ds, rfl, rfl, hl, hy, sl, sd, q⟩ := h
  cases rx
  obtain ⟨uy, rfl, ry⟩ := rxs.one
  obtain ⟨bs, r1⟩ := Dp.reads I d y uy hy ry
  have c1 : PyData.canLayAll0 ds = true := SeqAt.canLay_of_shaped sl
  have c2 := SeqAt.canLay_of_shaped sd
  cases hl with
  | lst hs ha =>
    obtain ⟨its, rv, hl', hz⟩ := I.list hs
    obtain ⟨as, h4⟩ := Dp.readsAll I ds _ its ha rv
    exact PySem.SeqAt.count_list_data (vs := its.toArray) hl'.isList (by simpa using h4) r1 (PyData.plainAll_of_canLay0 _ c1) (PyData.plain_of_canLay0 _ c2) (room_in_shaped sd hu) ⟨.int _, H, I.tok _, ⟨_, rfl⟩, q⟩
theorem mt_cntT (hu : X.A.units + 65 < cLine) : MtR X "tuple.count" (fun x xs H Q => ∃ (a : Addr) (y : V) (d : PyData) (ds : List PyData), x = V.ref a ∧ xs = [y] ∧ Dp X.K H (V.ref a) (.tuple ds) ∧ Dp X.K H y d ∧
    SeqAt.shaped (.list ds) = true ∧ SeqAt.shaped d = true ∧ Q (.int ((ds.countP fun z => PyData.eqv z d : Nat) : Int)) H) := by
  intro pins s σ H x xs v us Q I rx rxs h
  obtain ⟨a, y, d, ds, rfl, rfl, hl, hy, sl, sd, q⟩ := h
  cases rx
  obtain ⟨uy, rfl, ry⟩ := rxs.one
  obtain ⟨bs, r1⟩ := Dp.reads I d y uy hy ry
  have c1 : PyData.canLayAll0 ds = true := SeqAt.canLay_of_shaped sl
  have c2 := SeqAt.canLay_of_shaped sd
  cases hl with
  | tup hs ha =>
    obtain ⟨its, rv, hl', hz⟩ := I.tuple hs
    obtain ⟨as, h4⟩ := Dp.readsAll I ds _ its ha rv
    exact PySem.SeqAt.count_tuple_data (vs := its.toArray) hl' (by simpa using h4) r1 (PyData.plainAll_of_canLay0 _ c1) (PyData.plain_of_canLay0 _ c2) (room_in_shaped sd hu) ⟨.int _, H, I.tok _, ⟨_, rfl⟩, q⟩
def cntL (g : IEnv → IH → R (List IV)) (env : IEnv) : IV → IH → R IV := fun x h1 => match itemsL h1 x with
  | some _ => (g env h1).bind fun ys h2 => match ys with
    | [y] => match toD h2 66 x with
      | some (.list ds) => match toD h2 66 y with
        | some d => if SeqAt.shaped (.list ds) = true ∧ SeqAt.shaped d = true then .ok (.int ((ds.countP fun z => PyData.eqv z d : Nat) : Int)) h2 else .bad
        | none => .bad
      | _ => .bad
    | _ => .bad
  | none => .bad
def cntT (g : IEnv → IH → R (List IV)) (env : IEnv) : IV → IH → R IV := fun x h1 => match x with
  | .tup xs => (g env h1).bind fun ys h2 => match ys with
    | [y] => match toD h2 66 (.tup xs) with
      | some (.tuple ds) => match toD h2 66 y with
        | some d => if SeqAt.shaped (.list ds) = true ∧ SeqAt.shaped d = true then .ok (.int ((ds.countP fun z => PyData.eqv z d : Nat) : Int)) h2 else .bad
        | none => .bad
      | _ => .bad
    | _ => .bad
  | _ => .bad
def cntK (g : IEnv → IH → R (List IV)) (env : IEnv) : IV → IH → R IV := fun x h1 => match x with
  | .tup xs => cntT g env (.tup xs) h1
  | x => cntL g env x h1
def eCnt (f : EM) (g : IEnv → IH → R (List IV)) : EM := fun env h => (f env h).bind (cntK g env)
theorem m_cntL (hu : X.A.units + 65 < cLine) {obj e : Expr} {es : List Expr} {name : Str} {apos pos : Pos} {f : EM} {g : IEnv → IH → R (List IV)} (ho : PE X obj (tE C X.K W f)) (ha : PA X (e :: es) (tA C X.K W g))
    (mk : ∀ {r : V → List V → Hp → VK → Prop} {t : TA} {to : TE}, MtR X "list.count" r → PE X obj to → PA X (e :: es) t → PE X (.Call (.Attribute obj name apos) (e :: es) [] pos) (tBM X.K "list" r to t)) :
    PE X (.Call (.Attribute obj name apos) (e :: es) [] pos) (tE C X.K W fun env h => (f env h).bind (cntL g env)) := by
  refine pe_weak (mk (mt_cntL hu) ho ha) fun σ H Q ⟨m, env, h, er, sr, p⟩ => ⟨m, env, h, er, sr, tg_run p fun m1 H1 x hh u g1 s1 r1 p1 => ?_⟩
  unfold cntL at p1
  split at p1
  · rename_i xs0 hi0
    obtain ⟨a, vs, rfl, q, rr⟩ := itemsL_rd s1 r1 hi0
    refine ⟨.inl ⟨rfl, _, q⟩, m1, env, hh, er.mono g1, s1, tg_run p1 fun m2 H2 ys h2' us g2 s2 r2 p2 => ?_⟩
    split at p2
    · rename_i y
      split at p2
      · rename_i ds hx
        split at p2
        · rename_i d hd
          split at p2
          · rename_i hf
            obtain ⟨v, rfl, rv⟩ := one_of r2
            exact ⟨a, v, d, ds, rfl, rfl, toD_dp s2 66 x _ _ (VR.mono g2 _ _ r1) hx, toD_dp s2 66 y _ _ rv hd, hf.1, hf.2, post_int s2 p2⟩
          · exact p2.elim
        · exact p2.elim
      · exact p2.elim
    · exact p2.elim
  · exact p1.elim
theorem m_cntT (hu : X.A.units + 65 < cLine) {obj e : Expr} {es : List Expr} {name : Str} {apos pos : Pos} {f : EM} {g : IEnv → IH → R (List IV)} (ho : PE X obj (tE C X.K W f)) (ha : PA X (e :: es) (tA C X.K W g))
    (mk : ∀ {r : V → List V → Hp → VK → Prop} {t : TA} {to : TE}, MtR X "tuple.count" r → PE X obj to → PA X (e :: es) t → PE X (.Call (.Attribute obj name apos) (e :: es) [] pos) (tBT X.K r to t)) :
    PE X (.Call (.Attribute obj name apos) (e :: es) [] pos) (tE C X.K W fun env h => (f env h).bind (cntT g env)) := by
  refine pe_weak (mk (mt_cntT hu) ho ha) fun σ H Q ⟨m, env, h, er, sr, p⟩ => ⟨m, env, h, er, sr, tg_run p fun m1 H1 x hh u g1 s1 r1 p1 => ?_⟩
  cases x <;> first | exact p1.elim | skip
  rename_i xs
  have r2 : VR X.K m1 H1 (.tup xs) u := r1
  simp only [VR] at r2
  obtain ⟨a, vs, rfl, t, rr⟩ := r2
  refine ⟨⟨a, vs, rfl, t⟩, m1, env, hh, er.mono g1, s1, tg_run p1 fun m2 H2 ys h2' us g2 s2 r2 p2 => ?_⟩
  split at p2
  · rename_i y
    split at p2
    · rename_i ds hx
      split at p2
      · rename_i d hd
        split at p2
        · rename_i hf
          obtain ⟨v, rfl, rv⟩ := one_of r2
          exact ⟨a, v, d, ds, rfl, rfl, toD_dp s2 66 (.tup xs) _ _ (VR.mono g2 _ _ r1) hx, toD_dp s2 66 y _ _ rv hd, hf.1, hf.2, post_int s2 p2⟩
        · exact p2.elim
      · exact p2.elim
    · exact p2.elim
  · exact p2.elim
theorem m_cnt (hu : X.A.units + 65 < cLine) {obj e : Expr} {es : List Expr} {name : Str} {apos pos : Pos} {f : EM} {g : IEnv → IH → R (List IV)} (ho : PE X obj (tE C X.K W f)) (ha : PA X (e :: es) (tA C X.K W g))
    (mk : ∀ {r : V → List V → Hp → VK → Prop} {t : TA} {to : TE}, MtR X "list.count" r → PE X obj to → PA X (e :: es) t → PE X (.Call (.Attribute obj name apos) (e :: es) [] pos) (tBM X.K "list" r to t))
    (mk2 : ∀ {r : V → List V → Hp → VK → Prop} {t : TA} {to : TE}, MtR X "tuple.count" r → PE X obj to → PA X (e :: es) t → PE X (.Call (.Attribute obj name apos) (e :: es) [] pos) (tBT X.K r to t)) :
    PE X (.Call (.Attribute obj name apos) (e :: es) [] pos) (tE C X.K W (eCnt f g)) :=
  pe_by fun env h => by
    cases hf : f env h with
    | ok x h1 =>
      cases x with
      | tup xs => exact ⟨_, m_cntT hu ho ha mk2, by unfold eCnt; rw [hf]; rfl⟩
      | _ => exact ⟨_, m_cntL hu ho ha mk, by unfold eCnt; rw [hf]; rfl⟩
    | exc _ _ => exact ⟨_, m_cntL hu ho ha mk, by unfold eCnt; rw [hf]; rfl⟩
    | bad => exact ⟨_, m_cntL hu ho ha mk, by unfold eCnt; rw [hf]; rfl⟩
/-! xs.insert(i, y) -/
def mInsert : IV → List IV → IH → R IV
  | .ref k, [.int i, y], h => match h[k]? with
    | some (.lst xs) => if xs.length < sizeLine ∧ 0 ≤ i ∧ i < 2 ^ 63 then .ok .non (h.set k (.lst (xs.take i.toNat ++ [y] ++ xs.drop i.toNat))) else .bad
    | _ => .bad
  | _, _, _ => .bad
theorem mm_insert : MthM X C "list.insert" mInsert := by
  refine ⟨_, mt_insert, fun W σ m H h x ys u us Q s rx ry p => ?_⟩
  unfold mInsert at p
  split at p
  · rename_i k i y
    split at p
    · rename_i xs hk
      split at p
      · rename_i hz
        obtain ⟨a, vs, rfl, e, q, rr⟩ := lst_at s rx hk
        obtain ⟨v, w, rfl, rv, rw'⟩ := two_of ry
        simp only [VR] at rv
        subst rv
        exact ⟨a, vs, i, w, rfl, rfl, q, by rw [← rr.length]; exact hz.1, hz.2.1, hz.2.2, post_set s e q (VRs.append (VRs.append (VRs.take _ rr) (ys := [y]) (ws := [w]) (by simp only [VRs]; exact ⟨w, [], rfl, rw', rfl⟩)) (VRs.drop _ rr)) (x := .non) (by simp only [VR]) p⟩
      · exact p.elim
    · exact p.elim
  · exact p.elim
/-! list(range(a, b)) -/
theorem m_listRg2 {n n2 : Expr} {p p2 pos pos2 : Pos} {f f2 : EM} (hc : X.calm = true) (hg : Gl X "list") (hm : X.mg "list" = none) (hg2 : Gl X "range") (hm2 : X.mg "range" = none) (he : PE X n (tE C X.K W f)) (he2 : PE X n2 (tE C X.K W f2))
    (hs : starEach [n, n2] X.env = (false, eval n X.env) :: starEach [n2] X.env) (hs1 : starEach [n2] X.env = (false, eval n2 X.env) :: starEach [] X.env) (hp : (backTo pos2 (starEach [n2] X.env)).any (·.1) = false)
    (hs2 : starEach [.Call (.Name "range" p2) [n, n2] [] pos2] X.env = (false, eval (.Call (.Name "range" p2) [n, n2] [] pos2) X.env) :: starEach [] X.env) :
    PE X (.Call (.Name "list" p) [.Call (.Name "range" p2) [n, n2] [] pos2] [] pos) (tL C X.K W (lRg2 f f2)) :=
  pe_weak (pe_listRg hc hg hm (prg_2 hg2 hm2 he he2 hs hs1 hp) hs2) fun σ H Q ⟨m, env, h, er, sr, p⟩ => ⟨m, env, h, er, sr, tg_run p fun m1 H1 x h1 u g1 s1 r1 p1 => ⟨m1, env, h1, er.mono g1, s1, tg_run p1 fun m2 H2 y h2 w g2 s2 r2 p2 => by
    split at p2
    · rename_i i j
      have r1' := VR.mono g2 _ _ r1
      simp only [VR] at r1'
      simp only [rV, VR] at r2
      subst r1' r2
      split at p2
      · rename_i hk
        refine ⟨i, j, rfl, rfl, (by unfold rgOk at hk; have hk' := of_decide_eq_true hk; exact hk'), fun q hq => post_lst s2 p2 ?_ hq⟩
        unfold lRange rgV
        have e1 : ((List.range (j - i).toNat).map fun l => IV.int (i + (l : Nat))) = ((List.range (j - i).toNat).map fun (l : Nat) => i + (l : Int)).map IV.int := by rw [List.map_map]; rfl
        have e2 : ((List.range (j - i).toNat).map fun l => V.int (i + (l : Nat))) = ((List.range (j - i).toNat).map fun (l : Nat) => i + (l : Int)).map V.int := by rw [List.map_map]; rfl
        rw [e1, e2]
        exact VRs.of_ints _
      · exact p2.elim
    · exact p2.elim⟩⟩
end
end MM
namespace MM
open PySem L2
/-- a def that does not answer -/
theorem fnM_bad {P : Program} {w : World} {K : PySem.W.Frag} {mg : Str → Option Value} {base : Heap} {C : Cc} {k : Nat} {f : Addr} {fd : FuncData} {ps : List Str} : FnM P w K mg base C k f fd ps (fun _ _ => .bad) :=
  ⟨fun _ _ q => absurd rfl q, fun _ _ _ _ _ _ _ _ _ _ _ _ _ _ _ _ _ _ _ p => p.elim⟩
/-- no bool -/
def noB : IV → Bool
  | .bl _ => false
  | _ => true
section
variable {X : Cx} {C : Cc}
def nbV : V → Prop
  | .int _ => True
  | .str _ => True
  | .ref _ => True
  | .non => True
  | _ => False
theorem op_isBx : OpR X (compareOp .Is) (fun x y H Q => nbV x ∧ ∃ b, y = .bl b ∧ Q (.bl false) H) := by
  intro pins s σ H x y v u Q I rx ry h
  obtain ⟨hx, b, rfl, q⟩ := h
  cases (show u = Value.bool b from ry)
  cases x <;> first | exact hx.elim | skip
  · cases rx; exact wpAny_is_other rfl (by intro z; cases z) ⟨.bl false, H, I, rfl, q⟩
  all_goals first
    | (cases rx; exact wpAny_is_other rfl (by intro z; cases z) ⟨.bl false, H, I, rfl, q⟩)
    | (obtain ⟨t, rfl⟩ := rx; exact wpAny_is_other rfl (by intro z; cases z) ⟨.bl false, H, I, rfl, q⟩)
theorem op_notBx : OpR X (compareOp .IsNot) (fun x y H Q => nbV x ∧ ∃ b, y = .bl b ∧ Q (.bl true) H) := by
  intro pins s σ H x y v u Q I rx ry h
  obtain ⟨hx, b, rfl, q⟩ := h
  cases (show u = Value.bool b from ry)
  cases x <;> first | exact hx.elim | skip
  · cases rx; exact wpAny_isNot_other rfl (by intro z; cases z) ⟨.bl true, H, I, rfl, q⟩
  all_goals first
    | (cases rx; exact wpAny_isNot_other rfl (by intro z; cases z) ⟨.bl true, H, I, rfl, q⟩)
    | (obtain ⟨t, rfl⟩ := rx; exact wpAny_isNot_other rfl (by intro z; cases z) ⟨.bl true, H, I, rfl, q⟩)
def cIs2 (x y : IV) (h : IH) : R IV := match y with
  | .bl b => match x with
    | .bl a => .ok (.bl (decide (a = b))) h
    | _ => .ok (.bl false) h
  | y => cIs x y h
def cIsnt2 (x y : IV) (h : IH) : R IV := match y with
  | .bl b => match x with
    | .bl a => .ok (.bl (!decide (a = b))) h
    | _ => .ok (.bl true) h
  | y => cIsnt x y h
theorem nbV_of {K : PySem.W.Frag} {m : List Addr} {H : Hp} {x : IV} {u : V} (r : VR K m H x u) (hx : ∀ b, x ≠ .bl b) : nbV u := by
  cases x <;> simp only [VR] at r
  · subst r; trivial
  · rename_i b; exact absurd rfl (hx b)
  · subst r; trivial
  · subst r; trivial
  · obtain ⟨a, vs, rfl, _⟩ := r; trivial
  · obtain ⟨a, _, rfl⟩ := r; trivial
  · obtain ⟨a, vs, rfl, _⟩ := r; trivial
theorem om_is2 : OpM X C (compareOp .Is) cIs2 := by
  obtain ⟨r0, h0, g0⟩ := (om_is : OpM X C (compareOp .Is) cIs)
  refine ⟨_, h0.or op_isBx, fun W σ m H h x y u v Q s rx ry p => ?_⟩
  unfold cIs2 at p
  split at p
  · rename_i b
    split at p
    · rename_i a
      exact .inl (g0 W σ m H h (.bl a) (.bl b) u v Q s rx ry p)
    · rename_i hx
      simp only [rV, VR] at ry
      exact .inr ⟨nbV_of rx fun b' e => hx b' e, b, ry, post_bl s p⟩
  · exact .inl (g0 W σ m H h _ _ u v Q s rx ry p)
theorem om_isnt2 : OpM X C (compareOp .IsNot) cIsnt2 := by
  obtain ⟨r0, h0, g0⟩ := (om_isnt : OpM X C (compareOp .IsNot) cIsnt)
  refine ⟨_, h0.or op_notBx, fun W σ m H h x y u v Q s rx ry p => ?_⟩
  unfold cIsnt2 at p
  split at p
  · rename_i b
    split at p
    · rename_i a
      exact .inl (g0 W σ m H h (.bl a) (.bl b) u v Q s rx ry p)
    · rename_i hx
      simp only [rV, VR] at ry
      exact .inr ⟨nbV_of rx fun b' e => hx b' e, b, ry, post_bl s p⟩
  · exact .inl (g0 W σ m H h _ _ u v Q s rx ry p)
end
end MM
namespace MM
open PySem L2 PySem.Spec PyProof.Rows
section
variable {X : Cx} {C : Cc} {W : WX}
/-! a list, live or frozen, times an int -/
theorem op_repX : OpR X (binaryOp .Mult) (fun x y H Q => ∃ l k xs, x = .ref l ∧ y = .int k ∧ SqX X.K H l xs ∧ -(2 ^ 63) ≤ k ∧ k < 2 ^ 63 ∧ xs.length * k.toNat ≤ sizeLine ∧ ∀ p, H p = none → Q (.ref p) (upd H p (.lst (List.replicate k.toNat xs).flatten))) := by
  intro pins s σ H x y v u Q I rx ry h
  obtain ⟨l, k, xs, rfl, rfl, hX, k1, k2, kz, q⟩ := h
  cases rx
  obtain ⟨tk, rfl⟩ := ry
  obtain ⟨its, n, r, z, e⟩ := hX.obj I
  have lz : its.toArray.size * k.toNat ≤ sizeLine := by rw [List.size_toArray, ← r.length]; exact kz
  have c1 : ¬ its.toArray.size * k.toNat > (2 ^ 63 - 1) / 8 := by have : (sizeLine : Nat) ≤ (2 ^ 63 - 1) / 8 := by decide
                                                                  omega
  have c2 : ¬ (!Builtin.List.listFitsIndex k) = true := by rw [fitsIndex_both k1 k2]; exact Bool.false_ne_true
  have c3 : ¬ Builtin.List.listTooLong (its.toArray.size * k.toNat) = true := by rw [notLongL lz]; exact Bool.false_ne_true
  have e1 : List.foldl (fun x1 x2 => x1 ++ x2) #[] (List.replicate (if its.toArray.isEmpty = true then 0 else k.toNat) its.toArray) = (List.replicate k.toNat its).flatten.toArray := by
    have e0 : ∀ m : Nat, List.foldl (fun x1 x2 => x1 ++ x2) #[] (List.replicate m its.toArray) = (List.replicate m its).flatten.toArray := fun m => by have := foldl_rep its m []; rwa [List.nil_append] at this
    rw [e0]
    cases its with
    | nil => simp
    | cons _ _ => rw [if_neg (by simp)]
  refine wpAny_binaryOp_repeat_ref (T := "list") (U := "int") (by decide) ⟨_, e, rfl⟩ (fun s' => typeIs_int s' k tk) noFill_list_mul F.fills_int_mul F.slot_int_rmul repeat_list F.slot_int_index.lookup ?_
  refine call_meets F.slot_int_rmul (typeIs_int s k tk) F.entry_int_rmul (F.args_int_rmul_2 _ _) (int___rmul___int_list k tk l its.toArray n) ⟨e, rfl, ⟨_, e, rfl⟩, ?_⟩
  refine call_meets F.slot_list_mul ⟨_, e, rfl⟩ F.entry_list_mul (F.args_list_mul_2 _ _) (AutoListH.list___mul___list_int_3 l its.toArray n k tk c2 c1 c3) ⟨e, ?_⟩
  rw [e1]
  exact ⟨.ref _, _, I.lnew (t' := s.toks) (r.rep k.toNat) (by rw [PyProof.Rows.lm_len_rep_flat, Nat.mul_comm]; exact kz), rfl, q _ I.fresh⟩
def repK (x y : IV) (h : IH) : R (List IV) := match itemsL h x with
  | some xs => match y with
    | .int k => if -(2 ^ 63) ≤ k ∧ k < 2 ^ 63 ∧ xs.length * k.toNat ≤ sizeLine then .ok (List.replicate k.toNat xs).flatten h else .bad
    | _ => .bad
  | none => .bad
def lRepV (f g : EM) : IEnv → IH → R (List IV) := fun env h => (f env h).bind fun x h1 => (g env h1).bind fun y h2 => repK x y h2
theorem m_repV {a b : Expr} {f g : EM} {pos : Pos} (ha : PE X a (tE C X.K W f)) (hb : PE X b (tE C X.K W g)) : PE X (.BinOp a .Mult b pos) (tL C X.K W (lRepV f g)) :=
  pe_weak (pe_op op_repX ha hb) fun σ H Q ⟨m, env, h, er, sr, p⟩ => ⟨m, env, h, er, sr, tg_run p fun m1 H1 x h1 u g1 s1 r1 p1 => ⟨m1, env, h1, er.mono g1, s1, tg_run p1 fun m2 H2 y h2 v g2 s2 r2 p2 => by
    unfold repK at p2
    split at p2
    · rename_i xs hx
      split at p2
      · rename_i k
        split at p2
        · rename_i hz
          obtain ⟨a, vs, rfl, q, rr⟩ := itemsL_rdX s2 (VR.mono g2 _ _ r1) hx
          simp only [rV, VR] at r2
          subst r2
          exact ⟨a, k, vs, rfl, rfl, q, hz.1, hz.2.1, by rw [← rr.length]; exact hz.2.2, fun w hw => post_lst s2 p2 (VRs.rep rr _) hw⟩
        · exact p2.elim
      · exact p2.elim
    · exact p2.elim⟩⟩
/-! min, max of a list of data -/
theorem readsAll_nth {h : Heap} : ∀ {vs : List Value} {ds : List PyData} {as : List Addr}, ReadsAll h vs ds as → ∀ {i : Nat} {v : Value}, vs[i]? = some v → ∃ d bs, ds[i]? = some d ∧ Reads h v d bs
  | _, _, _, .nil, _, _, hv => by simp at hv
  | _, _, _, .cons r rs, 0, v, hv => by cases (show some _ = some v from hv); exact ⟨_, _, rfl, r⟩
  | _, _, _, .cons r rs, i + 1, v, hv => readsAll_nth rs (i := i) (v := v) hv
theorem plainAll_nth {ds : List PyData} (h : PyData.canLayAll0 ds = true) {i : Nat} {d : PyData} (e : ds[i]? = some d) : d.canLay0 = true := by
  induction ds generalizing i with
  | nil => simp at e
  | cons y ys ih =>
    simp only [PyData.canLayAll0, Bool.and_eq_true] at h
    cases i with
    | zero => cases e; exact h.1
    | succ i => exact ih h.2 e
theorem cr_selD (b : Bool) (hc : X.calm = true) (hu : X.A.units + 64 < cLine) : CallR X (.builtin (if b = true then "min" else "max")) (fun vs H Q => ∃ (a : Addr) (xs : List V) (d : PyData) (ds : List PyData), vs = [V.ref a] ∧ SqL X.K H a xs ∧ DpAll X.K H xs (d :: ds) ∧ PySem.W.AlikeAll (d :: ds) ∧ PyData.depthAll (d :: ds) ≤ 60 ∧ PyData.canLayAll0 (d :: ds) = true ∧
    (if b = true then PySem.W.minD d ds else PySem.W.maxD d ds).canLay0 = true ∧ ∀ (i : Nat) (x : V), xs[i]? = some x → (d :: ds)[i]? = some (if b = true then PySem.W.minD d ds else PySem.W.maxD d ds) → Q x H) := by
  intro pins s σ H vs us Q I r h
  obtain ⟨a, xs, d, ds, rfl, hs, hd, ha, hdp, hcl, hcm, q⟩ := h
  obtain ⟨its, rv, hl, hz⟩ := I.list hs
  obtain ⟨as, rd⟩ := Dp.readsAll I _ _ _ hd rv
  rw [Vals.ref1 r]
  have fin : ∀ (i : Nat) (v : Value) (h' : Heap) (tk : Nat) (bs : List Addr), its.toArray[i]? = some v → Reads h' v (if b = true then PySem.W.minD d ds else PySem.W.maxD d ds) bs → (∀ c o, s.heap.get? c = some o → h'.get? c = some o) → ∃ (vv : V) (H' : Hp), L2.Inv X pins σ H' { s with heap := h', toks := tk } ∧ RelV vv v ∧ Q vv H' := by
    intro i v h' tk bs hv hr hk
    have hv' : its[i]? = some v := by simpa using hv
    obtain ⟨d', bs', e1, r1⟩ := readsAll_nth rd hv'
    have k1 := plainAll_nth hcl e1
    have e2 : d' = (if b = true then PySem.W.minD d ds else PySem.W.maxD d ds) := by
      rw [← SeqAt.readOf_eq k1 (Reads.keeps hk r1), ← SeqAt.readOf_eq hcm hr]
    obtain ⟨x, hx, rx⟩ : ∃ x, xs[i]? = some x ∧ RelV x v := by
      have hi : i < xs.length := by rw [rv.length]; exact (List.getElem?_eq_some_iff.mp hv').1
      obtain ⟨w, h1, h2⟩ := rv.get (List.getElem?_eq_getElem hi)
      rw [hv'] at h1; cases h1
      exact ⟨_, List.getElem?_eq_getElem hi, h2⟩
    exact ⟨x, H, I.kept (t' := tk) hk, rx, q i x hx (by rw [e1, e2])⟩
  cases b with
  | true => exact PySem.W.min_list_data (vs := its.toArray) (I.ok.hd hc) hl.isList (by simpa using rd) ha (by omega) fun i v h' tk bs h1 h2 h3 => fin i v h' tk bs h1 h2 h3
  | false => exact PySem.W.max_list_data (vs := its.toArray) (I.ok.hd hc) hl.isList (by simpa using rd) ha (by omega) fun i v h' tk bs h1 h2 h3 => fin i v h' tk bs h1 h2 h3
mutual
def back : PyData → IV
  | .none => .non
  | .bool b => .bl b
  | .int i => .int i
  | .str s => .str s
  | .list ds => .fz (backs ds)
  | .tuple ds => .tup (backs ds)
  | _ => .non
def backs : List PyData → List IV
  | [] => []
  | d :: ds => back d :: backs ds
end
theorem back_toD (h : IH) : ∀ (n : Nat) (x : IV) (d : PyData), below 0 x = true → toD h n x = some d → back d = x
  | 0, _, _, _, e => by cases e
  | n + 1, x, d, b, e => by
    have all : ∀ (xs : List IV) (ds : List PyData), belows 0 xs = true → optAll (toD h n) xs = some ds → backs ds = xs := by
      intro xs
      induction xs with
      | nil => intro ds _ e1; cases e1; rfl
      | cons w ws ih =>
        intro ds b1 e1
        unfold optAll at e1
        cases h1 : toD h n w with
        | none => rw [h1] at e1; cases e1
        | some d1 =>
          rw [h1] at e1
          cases h2 : optAll (toD h n) ws with
          | none => rw [h2] at e1; cases e1
          | some ds1 =>
            rw [h2] at e1
            cases e1
            simp only [belows, Bool.and_eq_true] at b1
            unfold backs
            rw [back_toD h n w d1 b1.1 h1, ih ds1 b1.2 h2]
    cases x with
    | non => cases e; simp only [back]
    | bl p => cases e; simp only [back]
    | int i => cases e; simp only [back]
    | str s => cases e; simp only [back]
    | ref k => simp [below] at b
    | fz xs =>
      have e : (optAll (toD h n) xs).map PyData.list = some d := e
      cases h1 : optAll (toD h n) xs with
      | none => rw [h1] at e; cases e
      | some ds => rw [h1] at e; cases e; simp only [back]; rw [all xs ds b h1]
    | tup xs =>
      have e : (optAll (toD h n) xs).map PyData.tuple = some d := e
      cases h1 : optAll (toD h n) xs with
      | none => rw [h1] at e; cases e
      | some ds => rw [h1] at e; cases e; simp only [back]; rw [all xs ds b h1]
theorem optAll_nth {α β : Type} {f : α → Option β} : ∀ {l : List α} {ds : List β}, optAll f l = some ds → ∀ {i : Nat} {x : α}, l[i]? = some x → ∃ d, ds[i]? = some d ∧ f x = some d
  | [], _, e, i, x, hx => by simp at hx
  | y :: ys, ds, e, i, x, hx => by
    unfold optAll at e
    cases h1 : f y with
    | none => rw [h1] at e; cases e
    | some d1 =>
      rw [h1] at e
      cases h2 : optAll f ys with
      | none => rw [h2] at e; cases e
      | some ds1 =>
        rw [h2] at e
        cases e
        cases i with
        | zero => cases hx; exact ⟨d1, rfl, h1⟩
        | succ i => exact optAll_nth h2 (i := i) hx
/-- the least (greatest) of some data -/
def selD (b : Bool) (d : PyData) (ds : List PyData) : PyData := if b = true then PySem.W.minD d ds else PySem.W.maxD d ds
def selOk (ds : List PyData) : Bool := ds.all (fun x => ds.all fun y => PySem.W.alike x y) && ds.all (fun x => match x with | .none => false | _ => true) && decide (PyData.depthAll ds ≤ 60) && PyData.canLayAll0 ds
def selK (b : Bool) : IV → IH → R IV := fun x h => match itemsL h x with
  | some xs => match optAll (toD h 66) xs with
    | some (d :: ds) => if belows 0 xs = true ∧ selOk (d :: ds) = true ∧ (selD b d ds).canLay0 = true then .ok (back (selD b d ds)) h else .bad
    | _ => .bad
  | none => .bad
def eSel (b : Bool) (f : EM) : EM := fun env h => (f env h).bind (selK b)
theorem belows_nth {n : Nat} : ∀ {xs : List IV}, belows n xs = true → ∀ {i : Nat} {x : IV}, xs[i]? = some x → below n x = true
  | [], _, i, x, e => by simp at e
  | y :: ys, h, i, x, e => by
    simp only [belows, Bool.and_eq_true] at h
    cases i with
    | zero => cases e; exact h.1
    | succ i => exact belows_nth h.2 (i := i) e
theorem alike_sel {ds : List PyData} (h : selOk ds = true) : PySem.W.AlikeAll ds ∧ PyData.depthAll ds ≤ 60 ∧ PyData.canLayAll0 ds = true := by
  unfold selOk at h
  simp only [Bool.and_eq_true, List.all_eq_true, decide_eq_true_eq] at h
  obtain ⟨⟨⟨h1, h2⟩, h3⟩, h4⟩ := h
  refine ⟨⟨fun x hx y hy => h1 x hx y hy, fun x hx e => ?_⟩, h3, h4⟩
  have := h2 x hx
  rw [e] at this
  exact absurd this (by decide)
theorem sel_post (b : Bool) {σ : L2.St} {m : List Addr} {H : Hp} {h : IH} {x : IV} {u : V} {Q : VK} (s : SR X.K m H h) (r : VR X.K m H x u) (p : Post C X.K W σ m H (rV X.K) Q (selK b x h)) :
    ∃ (a : Addr) (xs : List V) (d : PyData) (ds : List PyData), [u] = [V.ref a] ∧ SqL X.K H a xs ∧ DpAll X.K H xs (d :: ds) ∧ PySem.W.AlikeAll (d :: ds) ∧ PyData.depthAll (d :: ds) ≤ 60 ∧ PyData.canLayAll0 (d :: ds) = true ∧
    (if b = true then PySem.W.minD d ds else PySem.W.maxD d ds).canLay0 = true ∧ ∀ (i : Nat) (x : V), xs[i]? = some x → (d :: ds)[i]? = some (if b = true then PySem.W.minD d ds else PySem.W.maxD d ds) → Q x H := by
  unfold selK at p
  split at p
  · rename_i xs hx
    split at p
    · rename_i d ds hd
      split at p
      · rename_i hc
        obtain ⟨c1, c2, c3⟩ := hc
        obtain ⟨a, vs, rfl, q, rr⟩ := itemsL_rd s r hx
        obtain ⟨k1, k2, k3⟩ := alike_sel c2
        refine ⟨a, vs, d, ds, rfl, q, optAll_dp s rr hd, k1, k2, k3, c3, fun i v hv hi => ?_⟩
        have hil : i < xs.length := by rw [rr.length]; exact (List.getElem?_eq_some_iff.mp hv).1
        obtain ⟨w, h1, h2⟩ := rr.get (List.getElem?_eq_getElem hil)
        rw [hv] at h1; cases h1
        obtain ⟨d', e1, e2⟩ := optAll_nth hd (List.getElem?_eq_getElem hil)
        rw [hi] at e1; cases e1
        have bk := back_toD h 66 _ _ (belows_nth c1 (List.getElem?_eq_getElem hil)) e2
        have bk : back (selD b d ds) = xs[i] := bk
        rw [bk] at p
        exact p m H v Go.refl s h2
      · exact p.elim
    · exact p.elim
  · exact p.elim
theorem m_selMin {e : Expr} {p pos : Pos} {f : EM} (hu : X.A.units + 64 < cLine) (hc : X.calm = true) (hg : Gl X "min") (hm : X.mg "min" = none) (he : PE X e (tE C X.K W f)) (hs : starEach (e :: []) X.env = (false, eval e X.env) :: starEach [] X.env) (hp : (backTo pos (starEach [] X.env)).any (·.1) = false) :
    PE X (.Call (.Name "min" p) [e] [] pos) (tE C X.K W (eSel true f)) :=
  pe_weak (pe_callB (cr_selD true hc hu) hg hm (by decide +kernel) (pa_cons he pa_nil hs) (by decide) (by decide) hs hp) fun σ H Q ⟨m, env, h, er, sr, p⟩ => ⟨m, env, h, er, sr, tg_run p fun m1 H1 x h1 u g1 s1 r1 p1 => sel_post true s1 r1 p1⟩
theorem m_selMax {e : Expr} {p pos : Pos} {f : EM} (hu : X.A.units + 64 < cLine) (hc : X.calm = true) (hg : Gl X "max") (hm : X.mg "max" = none) (he : PE X e (tE C X.K W f)) (hs : starEach (e :: []) X.env = (false, eval e X.env) :: starEach [] X.env) (hp : (backTo pos (starEach [] X.env)).any (·.1) = false) :
    PE X (.Call (.Name "max" p) [e] [] pos) (tE C X.K W (eSel false f)) :=
  pe_weak (pe_callB (cr_selD false hc hu) hg hm (by decide +kernel) (pa_cons he pa_nil hs) (by decide) (by decide) hs hp) fun σ H Q ⟨m, env, h, er, sr, p⟩ => ⟨m, env, h, er, sr, tg_run p fun m1 H1 x h1 u g1 s1 r1 p1 => sel_post false s1 r1 p1⟩
end
end MM
namespace MM
open PySem L2 PySem.Spec PyProof.Rows PySem.W
/-! an own exception class whose __init__ says super().__init__(text) and keeps one field -/
section
open PySem.Calls
variable {prog : Program} {w : World} {A : Around} {E : Value → Shared → Prop} {h : Heap} {g : Array GenState} {d : Drawn} {t : Nat} {os : OsState}
variable {nm q : Str} {C N : Addr} {bs bm : List Value} {hdct : Bool} {sn : List Str} {sub : List Value} {ab : Bool} {col : Option Bool} {dd : Option Addr} {k0 k1 k2 k3 k5 : Option Value}
theorem call_mw {u e t0 : Addr} {rest : List Value} {Q : Value → Shared → Prop}
    (hC : h.get? C = some (excClassObj nm q C N bs bm hdct sn sub ab col dd k0 k1 k2 k3 k5 "ValueError.__new__")) (he : h.get? e = some (HandSPX.excO C t0)) (hu : h.get? u = some (kxs_mw "ValueError.__init__" e)) (hrest : rest.length ≤ sizeLine)
    (hq : ∀ h' t1, (∀ b o, b ≠ e → h.get? b = some o → h'.get? b = some o) → h'.get? e = some (HandSPX.excO C t1) → Q .none ⟨h', g, d, t, os⟩) :
    wpAny (model prog w) A (call (.ref u) rest) Q E ⟨h, g, d, t, os⟩ := by
  refine wpAny_call (codeAny_of_tree ?_)
  show wpAny _ A.in1 (callAny (.ref u) ⟨rest, []⟩) _ _ _
  simp only [callAny]
  refine wpAny_bind (wpAny_load hu ?_)
  simp only [kxs_mw, show (Value.type "method-wrapper" == Value.type "method" || Value.type "method-wrapper" == Value.type "builtin_function_or_method" || Value.type "method-wrapper" == Value.type "method-wrapper") = true by decide, if_true]
  refine W.KFB.if_so (by decide) ?_
  refine wpAny_bind (ESX.check_bound F.excBase_ValueError hC he rfl ?_)
  refine wpAny_bind (wpAny_pure (wpAny_pure ?_))
  refine ⟨Code.quiet_builtin _ (by decide +kernel), codeAny_builtin F.excBase_ValueError.initEntry ?_⟩
  rw [Around.under_plainId F.excBase_ValueError.init.plain _]
  wp_walk
  refine hq _ h.objs.size (fun b o hb ho => ?_) ?_
  · rw [Heap.get?_update_other _ _ (Ne.symm hb)]
    exact Heap.get?_push_of_some _ ho
  · rw [Heap.get?_update_self _ (Heap.get?_push_of_some _ he) rfl]
    rfl
end

/-- what is known of such a class C, its __init__ at f, its field fl -/
structure SupF (P : Program) (K : Frag) (mg : Str → Option Value) (C f : Addr) (fl par : Str) (fd : FuncData) : Prop where
  T : OexC K C
  no : findIn K (.ref C) fl = some none
  lk : ∃ oc od osl, K.lookup f = some ⟨oc, od, .func fd, osl⟩
  cl : ∃ name qual params body scope dV kV doc pm an cda ct cc, fd = ksFn name qual params body scope dV kV doc pm an (.ref cda) ct cc ∧
    codeIn K (.ref cda) qual = true ∧
    (∃ ccl cdd vs ccs file tf, K.lookup cda = some ⟨ccl, cdd, .fields vs, ccs⟩ ∧ vs[2]? = some (.str file tf) ∧ ((P.main.file : Str) == file) = true) ∧
    (∃ cl cld csl, K.lookup cc = some ⟨cl, cld, .cell (some (.ref C)), csl⟩) ∧
    (∃ p0 p1 p2 p3 p4 p5 p6 p7 p8 p9 j txt, (p2.endLine == p4.line) = true ∧ body = [.Expr (.Call (.Attribute (.Call (.Name "super" p0) [] [] p1) "__init__" p2) [.Constant (.str txt) j p3] [] p4) p5, .Assign [.Attribute (.Name "self" p6) fl p7] (.Name par p8) p9]) ∧
    (∃ ar, (params.posonlyargs ++ params.args).head? = some ar ∧ ar.arg = "self") ∧
    scope.names.lookup ("super" : Str) = some .globalImplicit ∧ scope.names.lookup ("__class__" : Str) = some .free ∧ scope.names.lookup ("self" : Str) = some .local ∧ scope.names.lookup par = some .local ∧
    (∀ x ∈ scope.names, x.2 ≠ .cell) ∧ scope.kind = .function ∧ scope.isCoroutine = false ∧ scope.isGenerator = false
  np : par ≠ "self" ∧ (par == ("__debug__" : Str)) = false
  ms : mg "super" = none
  tp : (P.main.scope.names.lookup ("super" : Str)).isSome = false
  al : ks_superIn K C C "__init__" = some (some (.builtin "ValueError.__init__"))
  sb : subIn K (.ref C) (.type "ValueError") = some true
  mr : mroIn K C (.ref C) = some true
  op : nsIn K cStatics "thirdparty.any" = some none
  bt : bootBuiltins "super" = some (.type "super")
def spSup (C : Addr) (fl : Str) : Sp := fun vs H Q _ => ∃ a y, vs = [.ref a, y] ∧ H a = some (exo a C none) ∧ ∀ dx, H dx = none → dx ≠ a → Q .non (upd (upd H dx (exd dx [(fl, y)])) a (exo a C (some dx)))
/-- the exception at a gets its dict: what stays -/
theorem exc_put {P : Program} {w : World} {H : Hp} {hp h' : Heap} {fs : List Addr} {a C dx t2 : Addr} {fl : Str} {y : V} {u : Value} (hok : HOk P w H hp) (e : H a = some (exo a C none)) (ry : RelV y u)
    (k : ∀ b o, b ≠ a → hp.get? b = some o → h'.get? b = some o) (dn : hp.objs.size ≤ dx) (dne : dx ≠ a)
    (hx : h'.get? a = some ({ cls := .ref C, dict := some dx, data := .fields #[.ref t2, .none, .none, .none, .bool false, .none] } : Obj)) (hn : h'.Ns1 dx (fun z => if z = fl then some u else none)) :
    Un fs [] H (upd (upd H dx (exd dx [(fl, y)])) a (exo a C (some dx))) hp h' ∧ HOk P w (upd (upd H dx (exd dx [(fl, y)])) a (exo a C (some dx))) h' := by
  have hnd : H dx = none := hok.fresh dn
  have nd : ∀ {b : Addr} {o : Obj}, hp.get? b = some o → b ≠ dx := fun {b o} q => Nat.ne_of_lt (Nat.lt_of_lt_of_le (Heap.lt_size q) dn)
  have na : ∀ {b : Addr}, H b = none → b ≠ a := fun {b} n z => by
    rw [z, e] at n
    cases n
  refine ⟨{
    keep := fun b o q n _ _ => k b o (na n) q
    slot := fun b o q n _ _ => ⟨o.slots, k b o (na n) q⟩
    free := fun b o q n _ => by rw [upd_ne (na n), upd_ne (nd q)]; exact n
    there := fun b o q _ => by
      by_cases hb : b = a
      · exact ⟨_, by rw [hb]; exact hx⟩
      · exact ⟨o, k b o hb q⟩
    tups := fun b xs q => by rw [upd_ne (at_ne e q exo_tup), upd_ne (ne_of_none q hnd)]; exact q
    frzs := fun b o v q => by rw [upd_ne (at_ne e q exo_frz), upd_ne (ne_of_none q hnd)]; exact q
    tbls := fun b ps q => ⟨#[], by rw [upd_ne (at_ne e q exo_tbl), upd_ne (ne_of_none q hnd), q]; simp⟩ }, fun b o q => ?_⟩
  by_cases hb : b = a
  · subst hb
    rw [upd_same] at q
    cases q
    exact exo_ok hx
  · rw [upd_ne hb] at q
    by_cases hd : b = dx
    · subst hd
      rw [upd_same] at q
      cases q
      exact exd_ok hn (relO_put (fs := []) ry fun g => True.intro)
    · rw [upd_ne hd] at q
      exact (hok b o q).stay (fun c v hc z => k c v (by
          rcases hc with hc | hc
          · rw [hc]
            exact hb
          · exact at_ne e hc exo_own) z)
        (fun c hc => by rw [upd_ne (at_ne e hc exo_own), upd_ne (ne_of_none hc hnd)]; exact hc) (fun c xs hc => by rw [upd_ne (at_ne e hc exo_tup), upd_ne (ne_of_none hc hnd)]; exact hc)
theorem meth_one {o : Expr} {name : Str} {apos pos p3 : Pos} {j : Nat} {txt : Str} {env : Env} (h : (apos.endLine == pos.line) = true) : eval (.Call (.Attribute o name apos) [.Constant (.str txt) j p3] [] pos) env = (do
      let ov ← attributeBase o name env (eval o env)
      standAt apos.atName
      let (f, first) ← holding [ov] (getMethod ov name (do return (← importBound o env).getD true))
      callWith pos f first (backTo pos (starEach [.Constant (.str txt) j p3] env)) []) := by
  show (do
    let ov ← attributeBase o name env (eval o env)
    standAt apos.atName
    methodCall o name apos pos env ov 1 (backTo pos (starEach [.Constant (.str txt) j p3] env)) []) = _
  have e : ∀ ov, methodCall o name apos pos env ov 1 (backTo pos (starEach [.Constant (.str txt) j p3] env)) [] = (do
      let (f, first) ← holding [ov] (getMethod ov name (do return (← importBound o env).getD true))
      callWith pos f first (backTo pos (starEach [.Constant (.str txt) j p3] env)) []) := fun ov => by
    unfold methodCall
    have m : methodCallForm 1 (backTo pos (starEach [.Constant (.str txt) j p3] env)) [] = true := by first | rfl | decide
    rw [m]
    unfold methodCallPos
    simp only [h, Bool.or_true, if_true]
    rfl
  simp only [e]
theorem fn_sup {CX : CXT} {P : Program} {w : World} {K : Frag} {mg : Str → Option Value} {base : Heap} {C f : Addr} {fl par : Str} {fd : FuncData} (S : SupF P K mg C f fl par fd) : FnOk P w K mg base CX 1 f fd ["self", par] (spSup C fl) := by
  obtain ⟨oc, od, osl, lk⟩ := S.lk
  obtain ⟨name, qual, params, body, scope, dV, kV, doc, pm, an, cda, ct, cc, rfl, hcd, ⟨ccl, cdd, vs9, ccs, file, tf, hcode, hvs, hfile⟩, ⟨cl, cld, csl, hcell⟩, ⟨p0, p1, p2, p3, p4, p5, p6, p7, p8, p9, j, txt, hp24, rfl⟩, ⟨ar, har, hself⟩, s1, s2, s3, s4, s5, s6, s7, s8⟩ := S.cl
  obtain ⟨nm, q, N, bs, bm, sn, sub, ab, col, dd, k0, k1, k2, k3, k5, hC, hbm⟩ := S.T.cls
  refine ⟨fun vs H Q E ⟨a, y, e, _⟩ => by rw [e]; rfl, fun A outer s H args us vs Q E hr e0 hb r ⟨a, y, e1, ha, hq⟩ => ?_⟩
  subst e1
  cases r with
  | @cons _ ua _ us' ra r' =>
  cases r' with
  | @cons _ u _ us'' ry r'' =>
  cases r''
  obtain rfl : ua = Value.ref a := ra
  have hnp := S.np.1
  have KX : K.In s.heap := e0.mod.kin.keeps fun b o e => (e0.bs b o e).1
  have lim : s.heap.NoLimit := e0.mod.nolimit.keeps fun b o e => (e0.bs b o e).1
  refine ks_codeAny_call_defAt (binds := [("self", .ref a), (par, u)]) hr.depth (KX _ _ lk) rfl lim (PySem.W.codeRec_of KX hcd) rfl hb s5 (fun x hx => ?_) (fun h0 hns hk0 => ?_) s7 s8 s6
  · rcases List.mem_cons.mp hx with e | hx
    · rw [e]; exact s3
    · rw [List.mem_singleton.mp hx]; exact s4
  obtain ⟨t0, ho⟩ := exo_at e0.hok ha
  have KX0 : K.In h0 := KX.keeps hk0
  have ho0 := hk0 _ _ ho
  obtain ⟨hp, g, d, t, os⟩ := s
  refine ks_wpAt_execs_cons (ks_wpAt_Expr_any (ks_wpAt_MethodCall ?_ (meth_one hp24)) (by show (scope.kind == .module && _) = false; rw [s6]; rfl) rfl)
  refine ks_wpAt_super_base (env := callEnv (ksFn name qual params _ scope dV kV doc pm an (.ref cda) ct cc) hp.objs.size f) s1 s2 (by decide) rfl (KX0 _ _ lk) rfl har rfl (KX0 _ _ hcode) rfl hvs hfile S.tp ?_
  obtain ⟨mb, hb1, hb2⟩ := e0.mod.blt
  have kb : ∀ b o, base.get? b = some o → h0.get? b = some o := fun b o e => hk0 b o (e0.bs b o e).1
  refine ks_loadName_global s6 s1 (Calls.loadGlobal_builtin (env := callEnv (ksFn name qual params _ scope dV kV doc pm an (.ref cda) ct cc) hp.objs.size f) (e0.mod.glob.keeps kb) S.ms (hb1.keeps kb) ((hb2 _ (by decide)).trans S.bt) ⟨rfl, ?_⟩)
  refine wpAny_loadName_free s6 s2 rfl ⟨_, KX0 _ _ hcell, rfl⟩ ?_
  rw [hself]
  have v1 : ([("self", Value.ref a), (par, u)] : List (Str × Value)).reverse.lookup ("self" : Str) = some (.ref a) := by
    show List.lookup ("self" : Str) [(par, u), (("self" : Str), Value.ref a)] = _
    have : (("self" : Str) == par) = false := by simpa using fun e => hnp e.symm
    simp [List.lookup, this]
  have v2 : ([("self", Value.ref a), (par, u)] : List (Str × Value)).reverse.lookup par = some u := by
    show List.lookup par [(par, u), (("self" : Str), Value.ref a)] = _
    simp [List.lookup]
  refine wpAny_loadName_local s6 s3 hns v1 ?_
  refine ks_wpAny_isType_cls (KX0 _ _ hC) rfl ⟨rfl, ?_⟩
  refine ks_wpAny_call_super (KX0 _ _ hC) rfl ho0 rfl (fun c e => by cases e) (looks_mroIn KX0 S.mr) (fun h2 he hk2 => ?_)
  have KX2 : K.In h2 := KX0.keeps hk2
  have ho2 := hk2 _ _ ho0
  have I2 : InstAt h2 a ({ cls := .ref C, dict := none, data := .fields #[.ref t0, .none, .none, .none, .bool false, .none] } : Obj) C none := ⟨ho2, rfl, rfl, trivial⟩
  have hcls : clsIn K C = some { name := nm, bases := bs, mro := .ref C :: bm, ns := N, qualname := q, hasDict := true, slotNames := sn, subclasses := sub, abstract := ab, collection := col, hasDel := false } := by unfold clsIn; rw [hC] <;> rfl
  have al := S.al
  unfold ks_superIn at al
  rw [hcls] at al
  refine kxs_getMethod kxs_ValueError he (looks_opaque KX2 S.op) (l₀ := .ref C :: bm) (fun A Q E s k q => wpAny_bind ((looks_clsIn KX2 hcls) A _ E s k (wpAny_pure q))) rfl KX2 al (I2.type.andThen (looks_subIn KX2 S.sb)) (ks_ne KX2 I2 hcls) (by decide) ?_
  refine kxs_callWith (i := "ValueError.__init__") (x := a) rfl (Calls.evalArgs_plain (spliced_more (wpAny_Constant_str (spliced_none ?_)) rfl)) 
  have kmw : ∀ b o, h2.get? b = some o → (h2.push (kxs_mw "ValueError.__init__" a)).get? b = some o := fun b o e => Heap.get?_push_of_some _ e
  refine ⟨Heap.get?_push_at rfl rfl, ?_⟩
  refine call_mw (KX2 _ _ hC |> kmw _ _) (kmw _ _ ho2) (Heap.get?_push_at rfl rfl) (show (1 : Nat) ≤ sizeLine by decide) (fun h3 t1 hk3 hx3 => ?_)
  have ka : ∀ b o, b ≠ a → hp.get? b = some o → h3.get? b = some o := fun b o hb e => hk3 b o hb (kmw _ _ (hk2 _ _ (hk0 _ _ e)))
  have kL : ∀ b o, b ≠ a → h0.get? b = some o → h3.get? b = some o := fun b o hb e => hk3 b o hb (kmw _ _ (hk2 _ _ e))
  have aL : hp.objs.size ≠ a := fun z => by
    have := Heap.lt_size ho
    rw [← z] at this
    exact absurd this (Nat.lt_irrefl _)
  have ns3 : h3.Ns hp.objs.size (fun x => ([("self", Value.ref a), (par, u)] : List (Str × Value)).reverse.lookup x) := by
    obtain ⟨oL, es, ep, hL, rr⟩ := hns
    exact ⟨oL, es, ep, kL _ _ aL hL, rr⟩
  have aK : ∀ b o, K.lookup b = some o → b ≠ a := fun b o e z => by
    have := e0.hok
    have h1 := e0.bs b o (e0.mod.kin _ _ e)
    rw [z, ha] at h1
    cases h1.2
  have KX3 : K.In h3 := fun b o e => hk3 b o (aK b o e) (kmw _ _ (KX2 _ _ e))
  refine ks_wpAt_execs_cons (wpAt_of_wpAny (plainObj_wpAny_Assign_Attribute (wpAny_Name (wpAny_loadName_local s6 s4 ns3 v2 (wpAny_Name (wpAny_loadName_local s6 s3 ns3 v1 ?_) (by decide))) S.np.2) rfl))
  refine set_plain KX3 (ox := { cls := .ref C, dict := none, data := .fields #[.ref t1, .none, .none, .none, .bool false, .none] }) (od := none) ⟨hx3, rfl, rfl, trivial⟩ S.T.sa ?_
  refine HandSPX.exc_osa KX3 hx3 hcls (show HandSPX.refsVE (.ref C :: bm) = true from hbm) rfl S.no (fun h4 tk4 dx k4 dn dne hx4 hn4 => ?_)
  have dn' : hp.objs.size ≤ dx := by
    have : hp.objs.size < h3.objs.size := by
      obtain ⟨oL, es, ep, hL, rr⟩ := ns3
      exact Heap.lt_size hL
    exact Nat.le_trans (Nat.le_of_lt this) dn
  have k : ∀ b o, b ≠ a → hp.get? b = some o → h4.get? b = some o := fun b o hb e => k4 b o hb (ka b o hb e)
  obtain ⟨un, hok⟩ := exc_put (fs := frs outer) e0.hok ha ry k dn' dne hx4 hn4
  have fin : CE outer P w H { heap := hp, gens := g, drawn := d, toks := t, os := os } Q .none { heap := h4, gens := g, drawn := d, toks := tk4, os := os } := ⟨.non, _, rfl, e0.bare, un, hok, rfl, hq dx (e0.hok.fresh dn') dne⟩

  exact wpAt_of_wpAny (wpAny_execs_nil fin)

/-- C(e) may be said: its __init__, by name -/
structure SupR (P : Program) (K : Frag) (mg : Str → Option Value) (x : Str) (C : Addr) (fl : Str) : Prop where
  ex : ∃ f par fd, SupF P K mg C f fl par fd ∧ findIn K (.ref C) "__init__" = some (some (.ref f)) ∧ typeIn K (.ref f) = some (.type "function") ∧ L2.Binds K fd ["self", par] []
  mg : mg x = some (.ref C)
  xf : XfC K C
def sRaiseV (c : Nat) (f : EM) : SM := fun e h => match f e h with
  | .ok v h1 => .exc ⟨c, some v⟩ e h1
  | .exc x h1 => .exc x e h1
  | .bad => .bad
section
variable {X : Cx} {C : Cc} {W : WX}
theorem upd_gone {H : Hp} {a dx : Addr} {o o2 u v : HO} (ha : H a = none) (hne : dx ≠ a) : upd (del (upd (upd (upd H a o) dx u) a o2) a) dx v = upd H dx v := by
  funext b
  by_cases hb : b = dx
  · subst hb; rw [upd_same, upd_same]
  · rw [upd_ne hb, upd_ne hb]
    by_cases ha' : b = a
    · subst ha'; rw [del_same, ha]
    · rw [del_ne ha', upd_ne ha', upd_ne hb, upd_ne ha']
theorem ms_raiseV {c : Nat} {x : Str} {f : EM} {e : Expr} {p pos' pos : Pos} (hc : X.calm = true) (tk : Takes X W) (S : SupR X.prog X.K X.mg x (C.ca c) (C.cf c)) (hr : Room 2 X.A) (he : PE X e (tE C X.K W f)) (hg : Gl X x := by rfl) (hdb : (x == ("__debug__" : Str)) = false := by decide)
    (hs : starEach (e :: []) X.env = (false, eval e X.env) :: starEach [] X.env := by rfl) (hpl : (backTo pos' (starEach [] X.env)).any (·.1) = false := by rfl) :
    PS X (.Raise (some (.Call (.Name x p) [e] [] pos')) none pos) (tS C X.K W (sRaiseV c f)) := by
  obtain ⟨fI, par, fd, F, iC, tI, hb⟩ := S.ex
  refine ps_weak (ps_raise hc tk (pmk_oex (CX := fun _ _ _ _ _ _ => False) (dvs := []) F.T iC tI (fn_sup F) hr hb .nil (fun _ _ _ _ _ _ _ z => z.elim) hg S.mg (pa_cons he pa_nil hs) hdb hs hpl)) fun D σ H ⟨m, env, h, er, sr, pp⟩ => ?_
  show tE C X.K W f σ H fun x H1 => _
  refine ⟨m, env, h, er, sr, ?_⟩
  unfold sRaiseV at pp
  cases hf : f env h with
  | bad => rw [hf] at pp; exact pp.elim
  | exc y h1 =>
    rw [hf] at pp
    exact fun m1 H1 cls d g s q => pp m1 σ H1 cls d g (er.mono g) s q
  | ok v h1 =>
    rw [hf] at pp
    intro m1 H1 u g s r
    refine ⟨Nat.le_trans (Nat.le_refl 1) (by decide), fun a ha => ⟨a, u, rfl, upd_same, fun dx hdx hne => ?_⟩⟩
    have hdx' : H1 dx = none := by rwa [upd_ne hne] at hdx
    refine ⟨rfl, dx, [(C.cf c, u)], upd_same, (upd_ne hne).trans upd_same, hdx', ?_⟩
    rw [upd_gone ha hne]
    have g2 : Go X.K m1 H1 m1 (upd H1 dx (.xd [(C.cf c, u)])) := Go.laid hdx'
    have g3 := g.trans g2
    exact pp m1 σ _ _ _ g3 (er.mono g3) (s.laid hdx') ⟨rfl, dx, u, rfl, s.fresh hdx', upd_same, VR.mono g2 _ _ r⟩
end
end MM
namespace MM
open PySem L2 PySem.Spec PyProof.Rows
/-! try with several clauses, some with a name -/
def unD (o : Option Nat) (D : Ends) : Ends := match o with
  | none => D
  | some i => { nx := fun σ' H' => D.nx (σ'.set i none) H', rt := D.rt, bk := fun σ' H' => D.bk (σ'.set i none) H', ct := fun σ' H' => D.ct (σ'.set i none) H' }
def setO (o : Option Nat) (a : Addr) (σ : L2.St) : L2.St := match o with
  | none => σ
  | some i => σ.set i (some (.ref a))
abbrev TsA := Addr → Value → Option Addr → TS
def wManyA (K : PySem.W.Frag) (Wout : WX) (D : Ends) : List (Value × Option Nat × TsA) → WX
  | [] => Wout
  | (c, o, ts) :: r => fun cls d σ H => ∃ b, PySem.W.exmOne K cls c = some b ∧ (b = true → ∀ a, H a = none → ts a cls d (unD o D) (setO o a σ) H) ∧ (b = false → wManyA K Wout D r cls d σ H)
/-- the clause's name and its slot -/
def NmOk (X : Cx) : Option Str → Option Nat → Prop
  | none, none => True
  | some n, some i => X.N[i]? = some n ∧ X.env.kindOf n = some .local
  | _, _ => False
inductive HdsA (X : Cx) : List ExceptHandler → List (Value × Option Nat × TsA) → Prop
  | nil : HdsA X [] []
  | cons {x : Str} {c : Value} {n : Option Str} {o : Option Nat} {ts : TsA} {b₀ : Stmt} {suite : List Stmt} {np pos' : Pos} {hds : List ExceptHandler} {l : List (Value × Option Nat × TsA)} (hc : Names X x c) (hn : NmOk X n o)
      (hsu : ∀ (a : Addr) (oe : Obj) (cls : Value) (d : Option Addr) (pn : List (Addr × Obj)), Zc cls d oe → (∃ vs, oe.data = .fields vs) → PSs (X.suite a ((a, oe) :: pn)) (b₀ :: suite) (ts a cls d)) (r : HdsA X hds l) :
      HdsA X (.ExceptHandler (some (.Name x np)) n (b₀ :: suite) pos' :: hds) ((c, o, ts) :: l)
section
variable {X : Cx} {body : List Stmt} {h₀ : ExceptHandler} {hds : List ExceptHandler} {l : List (Value × Option Nat × TsA)} {pos : Pos} {tb : WX → TS} {Wout : WX}
theorem ps_try_A (hs : X.stack = X.env :: X.outer) (hf : X.env.frame = some X.env.locals) (hN : X.N.Nodup) (tk : Takes X Wout)
    (hb : ∀ (W : WX) (pn : List (Addr × Obj)) (xe : Value → Shared → Prop), Takes (X.tr pn xe) W → PassesOwn (model X.prog X.w) X.A X.env xe → PSs (X.tr pn xe) body (tb W))
    (hh : HdsA X (h₀ :: hds) l) : PS X (.Try body (h₀ :: hds) [] [] pos) (fun D σ H => tb (wManyA X.K Wout D l) D σ H) := by
  refine ⟨fun pins s σ H D I h => ?_⟩
  have ok := I.ok
  have hfr : X.A.frames = some (X.env :: X.outer) := by rw [ok.frames, hs]
  refine wpAny_Try_except ?_
  refine wpAny_mono ((hb (wManyA X.K Wout D l) (X.pn ++ pins) (fun e s₁ => wpAny (model X.prog X.w) X.A (noteFrame e X.env) (fun _ s₂ => wpAny (model X.prog X.w) X.A (setFlight e none) (fun _ s₃ =>
    wpAny (model X.prog X.w) X.A (handleBy e X.env (h₀ :: hds)) (SP X pins D) X.xe s₃) X.xe s₂) X.xe s₁) (fun u s' xx => ?_) PassesOwn.looking).run [] s σ H D (I.toTry _) h) (fun f s1 hsp => ?_) (fun e s1 he => he)
  · -- the catch
    obtain ⟨a, B, sI, pins', σ', H', cls, d, rfl, J', nb, up, sky, na, os, ag, w⟩ := xx
    have J : Inv X pins σ' H' sI := J'.ofTry ok
    have sky' : Sky B (X.env :: X.outer) a (Zc cls d) X.env.locals s'.heap := by rw [← hs]; exact sky
    show wpAny (model X.prog X.w) X.A (noteFrame (.ref a) X.env) _ _ _
    refine Sky.land Zc.steady hfr hf sky' fun h3 fl3 up3 => ?_
    have J3 : Inv X pins σ' H' { s' with heap := h3 } := J.landed nb fl3.1 (up.trans up3) os ag
    obtain ⟨oe3, vs3, he3, hz3, hd3⟩ := fl3.there
    have notFr : ∀ {h : Heap} {o : Obj} {vs : Array Value}, h.FunFrames B (X.env :: X.outer) → h.get? a = some o → o.data = .fields vs → a ∉ frs (X.env :: X.outer) := fun {h o vs} ff e dd hm => by
      obtain ⟨_, o', e', hnf⟩ := ff.mem hm
      rw [e] at e'; cases e'
      exact hnf _ dd
    have nfr := notFr fl3.2.2.1 he3 hd3
    have nL : a ≠ X.env.locals := fun z => nfr (List.mem_filterMap.mpr ⟨X.env, List.mem_cons_self, by rw [hf, z]⟩)
    have nF : a ∉ X.fs := fun hm => by
      obtain ⟨e, he, q⟩ := List.mem_filterMap.mp hm
      exact nfr (List.mem_filterMap.mpr ⟨e, List.mem_cons_of_mem _ he, q⟩)
    have S3 := J3.suite he3 hd3 na nL nF
    have go : ∀ {hds' : List ExceptHandler} {l' : List (Value × Option Nat × TsA)}, HdsA X hds' l' → wManyA X.K Wout D l' cls d σ' H' →
        wpAny (model X.prog X.w) X.A (handleBy (.ref a) X.env hds') (SP X pins D) X.xe { s' with heap := h3 } := by
      intro hds' l' hk
      induction hk with
      | nil =>
        intro w
        refine wpAny_handleBy_nil ?_
        obtain ⟨k1, k2, k3, oe, vs, T, oT, ts', he, hz, hd, h1, hr⟩ := id fl3
        unfold PySem.passOn
        refine wpAny_bind (wpAny_field he hd h1 ?_)
        rw [if_neg (show ¬ ((Value.ref T == Value.none) = true) from by simp)]
        have fin : wpAny (model X.prog X.w) X.A (setFlight (.ref a) X.env.frame) (fun _ s4 => wpAny (model X.prog X.w) X.A (throw (.ref a) : Sem Flow) (SP X pins D) X.xe s4) X.xe { s' with heap := h3 } := by
          rw [hf]
          refine HandSPX.setFlight_upZ fl3 fun h4 hh4 up4 => wpAny_throw (tk _ _ ?_)
          exact ⟨a, B, sI, pins, σ', H', cls, d, rfl, J, nb, (up.trans up3).trans up4, .inr (.inr (by rw [hs]; exact hh4)), na, os, ag, w⟩
        first
          | exact wpAny_bind (wpAny_pure (wpAny_bind fin))
          | exact wpAny_bind fin
      | @cons x c n o ts b₀ suite np pos' hds2 l2 hc hn hsu r ih =>
        intro w
        obtain ⟨b, hb1, hyes, hno⟩ := w
        refine wpAny_handleBy_cons (codeAny_handlers_test ?_) (by intro q; cases q)
        have LT : PySem.W.Looks (model X.prog X.w) h3 (typeOf (.ref a)) cls := fun A Q E s k q => wpAny_typeOf_ref (k _ _ he3) (by rw [hz3.1]; exact q)
        have LM := PySem.W.exm_one (M := model X.prog X.w) (J3.kIn) LT hb1
        have test : ∀ {Q : Value → Shared → Prop} {E : Value → Shared → Prop}, Q c { s' with heap := h3 } → wpAny (model X.prog X.w) (X.A.mark (some (.ref a))) (eval (.Name x np) X.env) Q E { s' with heap := h3 } := fun {Q E} q => by
          obtain ⟨hg, hdbg, hm | ⟨hm, hv, hnn⟩⟩ := hc
          · exact ld_glob (X := X.suite a ((a, oe3) :: (X.pn ++ pins))) S3 hg hm q hdbg
          · exact ld_blt (X := X.suite a ((a, oe3) :: (X.pn ++ pins))) S3 hg hm hv q hnn hdbg
        refine test (LM.here ?_)
        cases b with
        | true =>
          have hy := hyes rfl a na
          cases o with
          | none =>
            cases n with
            | some n => exact hn.elim
            | none =>
              refine codeAny_handlers_suite ?_
              refine HandSPX.lands_againZ fl3 fun h4 fl4 up4 => ?_
              have J4 : Inv X pins σ' H' { s' with heap := h4 } := J.landed nb fl4.1 ((up.trans up3).trans up4) os ag
              obtain ⟨oe4, vs4, he4, hz4, hd4⟩ := fl4.there
              have S4 := J4.suite he4 hd4 na nL nF
              refine wpAny_mono ((hsu a oe4 cls d (X.pn ++ pins) hz4 ⟨_, hd4⟩).run [] _ _ H' _ S4 hy) (fun f s6 hsp => ?_) (fun _ _ z => False.elim z)
              cases f with
              | next =>
                obtain ⟨σ6, H6, S6, q6⟩ := hsp
                exact ⟨_, _, S6.unsuite ok, q6⟩
              | brk =>
                obtain ⟨σ6, H6, S6, q6⟩ := hsp
                exact ⟨_, _, S6.unsuite ok, q6⟩
              | cont =>
                obtain ⟨σ6, H6, S6, q6⟩ := hsp
                exact ⟨_, _, S6.unsuite ok, q6⟩
              | ret u =>
                obtain ⟨v6, σ6, H6, S6, r6, q6⟩ := hsp
                exact ⟨_, _, _, S6.unsuite ok, r6, q6⟩
          | some i =>
            cases n with
            | none => exact hn.elim
            | some n =>
              obtain ⟨hi, hln⟩ := hn
              have hloc : Loc X.env.scope n := .inl hln
              refine codeAny_handlers_suite_as ?_
              refine HandSPX.lands_againZ fl3 fun h4 fl4 up4 => ?_
              have J4 : Inv X pins σ' H' { s' with heap := h4 } := J.landed nb fl4.1 ((up.trans up3).trans up4) os ag
              obtain ⟨oe4, vs4, he4, hz4, hd4⟩ := fl4.there
              have S4 := J4.suite he4 hd4 na nL nF
              refine store_ok (X := X.suite a ((a, oe4) :: (X.pn ++ pins))) (v := .ref a) S4 hN hi hloc rfl (fun s5 S5 => ?_) (.inr hln)
              refine wpAny_mono ((hsu a oe4 cls d (X.pn ++ pins) hz4 ⟨_, hd4⟩).run [] s5 _ H' _ S5 hy) (fun f s6 hsp => ?_) (fun _ _ z => False.elim z)
              have end_ : ∀ {σ6 : L2.St} {H6 : Hp} {Q : Shared → Prop}, Inv (X.suite a ((a, oe4) :: (X.pn ++ pins))) [] σ6 H6 s6 → (∀ s7, Inv X pins (σ6.set i none) H6 s7 → Q s7) →
                  wpAny (model X.prog X.w) X.A (do bindName X.env n .none; unbindBehindTheSuite X.env n pos') (fun _ s7 => Q s7) X.xe s6 := fun {σ6 H6 Q} S6 hq => gone_ok (S6.unsuite ok) hN hi hln hq
              cases f with
              | next =>
                obtain ⟨σ6, H6, S6, q6⟩ := hsp
                exact end_ S6 fun s7 J7 => ⟨_, _, J7, q6⟩
              | brk =>
                obtain ⟨σ6, H6, S6, q6⟩ := hsp
                exact end_ S6 fun s7 J7 => ⟨_, _, J7, q6⟩
              | cont =>
                obtain ⟨σ6, H6, S6, q6⟩ := hsp
                exact end_ S6 fun s7 J7 => ⟨_, _, J7, q6⟩
              | ret u =>
                obtain ⟨v6, σ6, H6, S6, r6, q6⟩ := hsp
                exact end_ S6 fun s7 J7 => ⟨_, _, _, J7, r6, q6⟩
        | false =>
          show wpAny _ X.A (handleBy (.ref a) X.env hds2) _ _ _
          exact ih (hno rfl)
    exact go hh w
  · cases f with
    | next =>
      obtain ⟨σ', H', J', q⟩ := hsp
      exact wpAny_execs_nil ⟨σ', H', J'.ofTry ok, q⟩
    | brk =>
      obtain ⟨σ', H', J', q⟩ := hsp
      exact ⟨σ', H', J'.ofTry ok, q⟩
    | cont =>
      obtain ⟨σ', H', J', q⟩ := hsp
      exact ⟨σ', H', J'.ofTry ok, q⟩
    | ret u =>
      obtain ⟨v, σ', H', J', r, q⟩ := hsp
      exact ⟨v, σ', H', J'.ofTry ok, r, q⟩
end

/-! ### the small machine's try -/
def RS.un (o : Option Nat) (r : RS) : RS := match o with
  | none => r
  | some i => match r with
    | .nx e h => .nx (e.set i none) h
    | .bk e h => .bk (e.set i none) h
    | .ct e h => .ct (e.set i none) h
    | r => r
def wipO (o : Option Nat) (e : IEnv) : IEnv := match o with
  | none => e
  | some i => e.set i none
def hdlA (tb : XT) (x : XC) (e : IEnv) (h : IH) : List (Nat × Option Nat × (XC → SM)) → RS
  | [] => .exc x e h
  | (c, o, g) :: r => match isX tb x.cls c with
    | some true => if o.all (fun i => decide (i < e.length)) = true then RS.un o ((g x (wipO o e) h).nox) else .bad
    | some false => hdlA tb x e h r
    | none => .bad
def sTryA (tb : XT) (b : SM) (hs : List (Nat × Option Nat × (XC → SM))) : SM := fun e h => match b e h with
  | .exc x e1 h1 => hdlA tb x e1 h1 hs
  | r => r
/-- what a suite knows of the exception: its class, its dict, where its name stands -/
def slotAt (o : Option Nat) (a : Addr) (σ : L2.St) : Prop := match o with
  | none => True
  | some i => σ[i]? = some (some (.ref a))
def tXS (C : Cc) (K : PySem.W.Frag) (W : WX) (x : XC) (o : Option Nat) (a : Addr) (cls : Value) (d : Option Addr) (f : SM) : TS := fun D σ H =>
  ∃ m e h, ER K m H e σ ∧ SR K m H h ∧ XRel C K m H x cls d ∧ slotAt o a σ ∧ PostS C K W m H D (f e h)
def tXE (C : Cc) (K : PySem.W.Frag) (W : WX) (x : XC) (o : Option Nat) (a : Addr) (cls : Value) (d : Option Addr) (f : EM) : TE := fun σ H Q =>
  ∃ m e h, ER K m H e σ ∧ SR K m H h ∧ XRel C K m H x cls d ∧ slotAt o a σ ∧ Post C K W σ m H (rV K) Q (f e h)
def tXA (C : Cc) (K : PySem.W.Frag) (W : WX) (x : XC) (o : Option Nat) (a : Addr) (cls : Value) (d : Option Addr) (f : IEnv → IH → R (List IV)) : TA := fun σ H Q =>
  ∃ m e h, ER K m H e σ ∧ SR K m H h ∧ XRel C K m H x cls d ∧ slotAt o a σ ∧ Post C K W σ m H (rVs K) Q (f e h)
theorem XRel.mono {C : Cc} {K : PySem.W.Frag} {m m' : List Addr} {H H' : Hp} {x : XC} {cls : Value} {d : Option Addr} (r : XRel C K m H x cls d) (g : Go K m H m' H') : XRel C K m' H' x cls d := by
  obtain ⟨h1, h2⟩ := r
  refine ⟨h1, ?_⟩
  cases hf : x.fld with
  | none => rw [hf] at h2; exact h2
  | some v =>
    rw [hf] at h2
    obtain ⟨dd, u, e, n, hd, rv⟩ := h2
    exact ⟨dd, u, e, g.out hd n, g.fr _ _ hd n, VR.mono g _ _ rv⟩
section
variable {X : Cx} {C : Cc} {W : WX} {x : XC} {o : Option Nat} {a : Addr} {cls : Value} {d : Option Addr}
/-- what needs nothing of the exception -/
theorem x_pe {e : Expr} {f : EM} (h : PE X e (tE C X.K W f)) : PE X e (tXE C X.K W x o a cls d f) := pe_weak h fun σ H Q ⟨m, env, h, er, sr, _, _, p⟩ => ⟨m, env, h, er, sr, p⟩
theorem x_ps {l : List Stmt} {f : SM} (h : PSs X l (tS C X.K W f)) : PSs X l (tXS C X.K W x o a cls d f) := ⟨fun pins s σ H D I ⟨m, env, h', er, sr, _, _, p⟩ => h.run pins s σ H D I ⟨m, env, h', er, sr, p⟩⟩
theorem x_nil : PA X [] (tXA C X.K W x o a cls d aNil) := pa_weak pa_nil fun σ H Q ⟨m, env, h, er, sr, _, _, p⟩ => p.here sr (by simp only [rVs, VRs])
theorem x_cons {e : Expr} {es : List Expr} {f : EM} {g : IEnv → IH → R (List IV)} (he : PE X e (tXE C X.K W x o a cls d f)) (hr : PA X es (tXA C X.K W x o a cls d g)) (hs : starEach (e :: es) X.env = (false, eval e X.env) :: starEach es X.env := by rfl) :
    PA X (e :: es) (tXA C X.K W x o a cls d (aCons f g)) :=
  pa_weak (pa_cons he hr hs) fun σ H Q ⟨m, env, h, er, sr, xr, sl, p⟩ => ⟨m, env, h, er, sr, xr, sl, tg_run p fun m1 H1 v h1 u g1 s1 r1 p1 => ⟨m1, env, h1, er.mono g1, s1, xr.mono g1, sl, tg_run p1 fun m2 H2 vs h2 us g2 s2 r2 p2 => by
    refine p2.here s2 ?_
    simp only [rVs, VRs]
    exact ⟨u, us, rfl, VR.mono g2 _ _ r1, r2⟩⟩⟩
theorem x_tup {es : List Expr} {f : IEnv → IH → R (List IV)} {x1 : Nat} {pos : Pos} (h : PA X es (tXA C X.K W x o a cls d f)) : PE X (.Tuple es x1 pos) (tXE C X.K W x o a cls d (eTup f)) :=
  pe_weak (pe_tupN h) fun σ H Q ⟨m, env, h, er, sr, xr, sl, p⟩ => ⟨m, env, h, er, sr, xr, sl, tg_run p fun m1 H1 xs h1 us g1 s1 r1 p1 => by
    split at p1
    · rename_i hz
      exact ⟨by rw [← r1.length]; exact hz, fun q ob hq hd => post_tup s1 p1 r1 hq hd⟩
    · exact p1.elim⟩
theorem x_asg {tg ex : Expr} {f : EM} {ts : List Nat} {g : GM} {pos : Pos} (he : PE X ex (tXE C X.K W x o a cls d f)) (hg : PG X tg (tGt X.K ts g)) (hs : swapsWithSole [tg] ex pos.line X.env = pure false := by rfl) (hw : swappedStores [tg] ex X.env = pure none := by rfl)
    (h1 : (assignEach [tg] X.env).map (·.2) = [assign tg X.env] := by rfl) : PS X (.Assign [tg] ex pos) (tXS C X.K W x o a cls d (sAsg f g)) :=
  ps_weak (ps_asg he hg hs hw h1) fun D σ H ⟨m, e, h, er, sr, xr, sl, p⟩ => ⟨m, e, h, er, sr, xr, sl, ts_run er p fun m1 H1 x h1 u g1 s1 er1 r1 p1 => by
    cases q : g x e h1 with
    | none => rw [q] at p1; exact p1.elim
    | some pr =>
      obtain ⟨e2, h2⟩ := pr
      rw [q] at p1
      exact ⟨m1, e, h1, x, e2, h2, er1, s1, r1, q, fun m2 σ2 H2 g2 er2 sr2 _ => p1 m2 σ2 H2 g2 er2 sr2⟩⟩
end
/-- error.f -/
def eXf (c : Nat) (x : XC) : EM := fun _ h => if x.cls = c then match x.fld with
  | some v => .ok v h
  | none => .bad else .bad
theorem x_fld {X : Cx} {C : Cc} {W : WX} {x : XC} {i c : Nat} {a : Addr} {oe : Obj} {cls : Value} {d : Option Addr} {pn : List (Addr × Obj)} {n fl : Str} {p pos : Pos} (T : XfC X.K (C.ca c)) (hfl : C.cf c = fl) (hno : PySem.W.findIn X.K (.ref (C.ca c)) fl = some none)
    (hz : Zc cls d oe) (hf : ∃ vs, oe.data = .fields vs) (hN : X.N[i]? = some n) (hv : Vis X.env.scope n) (hd : (n == ("__debug__" : Str)) = false) (hcd : (n == ("__classdict__" : Str)) = false)
    (hb : attributeBase (.Name n p) fl X.env (eval (.Name n p) X.env) = eval (.Name n p) X.env := by rfl) :
    PE (X.suite a ((a, oe) :: pn)) (.Attribute (.Name n p) fl pos) (tXE C X.K W x (some i) a cls d (eXf c x)) :=
  pe_weak (pe_xf T hno hz hf (pe_var (X := X.suite a ((a, oe) :: pn)) (i := i) hN hv hd hcd) hb) fun σ H Q ⟨m, env, h, er, sr, xr, sl, p⟩ => by
    unfold eXf at p
    split at p
    · rename_i hc
      cases hfd : x.fld with
      | none => rw [hfd] at p; exact p.elim
      | some v =>
        rw [hfd] at p
        obtain ⟨x1, x2⟩ := xr
        rw [hfd] at x2
        obtain ⟨dd, u, e1, e2, e3, e4⟩ := x2
        rw [hc] at x1 e3
        rw [hfl] at e3
        refine ⟨.ref a, sl, rfl, x1, dd, [(fl, u)], u, e1, e3, ?_, p.here sr e4⟩
        simp [List.lookup]
    · exact p.elim

inductive HdMA (X : Cx) (C : Cc) : List ExceptHandler → List (Nat × Option Nat × (XC → SM)) → Prop
  | nil : HdMA X C [] []
  | cons {x : Str} {c : Nat} {n : Option Str} {o : Option Nat} {g : XC → SM} {b₀ : Stmt} {suite : List Stmt} {np pos' : Pos} {hds : List ExceptHandler} {l : List (Nat × Option Nat × (XC → SM))} (hc : Names X x (.ref (C.ca c))) (hn : NmOk X n o)
      (hsu : ∀ (x : XC) (a : Addr) (oe : Obj) (cls : Value) (d : Option Addr) (pn : List (Addr × Obj)), Zc cls d oe → (∃ vs, oe.data = .fields vs) → PSs (X.suite a ((a, oe) :: pn)) (b₀ :: suite) (tXS C X.K (fun _ _ _ _ => False) x o a cls d (g x))) (r : HdMA X C hds l) :
      HdMA X C (.ExceptHandler (some (.Name x np)) n (b₀ :: suite) pos' :: hds) ((c, o, g) :: l)
def hdA (C : Cc) (K : PySem.W.Frag) (x : XC) (p : Nat × Option Nat × (XC → SM)) : Value × Option Nat × TsA := (.ref (C.ca p.1), p.2.1, fun a cls d => tXS C K (fun _ _ _ _ => False) x p.2.1 a cls d (p.2.2 x))
theorem HdMA.ok {X : Cx} {C : Cc} {hds : List ExceptHandler} {l : List (Nat × Option Nat × (XC → SM))} (h : HdMA X C hds l) (x : XC) : HdsA X hds (l.map (hdA C X.K x)) := by
  induction h with
  | nil => exact .nil
  | cons hc hn hsu r ih => exact .cons hc hn (fun a oe cls d pn hz hf => hsu x a oe cls d pn hz hf) ih
theorem ER.wip {K : PySem.W.Frag} {m : List Addr} {H : Hp} {e : IEnv} {σ : L2.St} (r : ER K m H e σ) (i : Nat) (v : Option V) : ER K m H (e.set i none) (σ.set i v) :=
  ⟨by rw [List.length_set, List.length_set]; exact r.len, fun j x hx => by
    by_cases hj : i = j
    · subst hj
      rw [List.getElem?_set] at hx
      simp only [if_true] at hx
      split at hx <;> cases hx
    · rw [List.getElem?_set_ne hj] at hx
      rw [List.getElem?_set_ne hj]
      exact r.at_ j x hx⟩
theorem un_post {C : Cc} {K : PySem.W.Frag} {W : WX} {m : List Addr} {H : Hp} {D : Ends} {o : Option Nat} {r : RS} (p : PostS C K W m H D (RS.un o r.nox)) : PostS C K (fun _ _ _ _ => False) m H (unD o D) r := by
  cases o with
  | none => exact nox_post p
  | some i =>
    cases r with
    | exc _ _ _ => exact p.elim
    | nx e h => exact fun m1 σ1 H1 g er sr => p m1 _ H1 g (er.wip i none) sr
    | rt _ _ => exact p
    | bk e h => exact fun m1 σ1 H1 g er sr => p m1 _ H1 g (er.wip i none) sr
    | ct e h => exact fun m1 σ1 H1 g er sr => p m1 _ H1 g (er.wip i none) sr
    | bad => exact p
theorem hdlA_post {C : Cc} {K : PySem.W.Frag} {W : WX} {tb : XT} (ok : Xf K C tb) {m : List Addr} {H : Hp} {D : Ends} {x : XC} {e : IEnv} {h : IH} : ∀ (l : List (Nat × Option Nat × (XC → SM))), PostS C K W m H D (hdlA tb x e h l) → ∀ m' σ' H' cls d, Go K m H m' H' → ER K m' H' e σ' → SR K m' H' h → XRel C K m' H' x cls d →
    wManyA K W D (l.map (hdA C K x)) cls d σ' H'
  | [], p, m', σ', H', cls, d, g, er, sr, xr => p m' σ' H' cls d g er sr xr
  | (c, o, f) :: r, p, m', σ', H', cls, d, g, er, sr, xr => by
    unfold hdlA at p
    have hcls := xr.1
    cases hi : isX tb x.cls c with
    | none => rw [hi] at p; exact p.elim
    | some b =>
      rw [hi] at p
      refine ⟨b, by rw [hcls]; exact ok.is hi, fun hb a ha => ?_, fun hb => ?_⟩
      · subst hb
        dsimp only at p
        split at p
        · rename_i hl
          have p2 := un_post (p.mono g)
          cases o with
          | none => exact ⟨m', e, h, er, sr, xr, trivial, p2⟩
          | some i =>
            have hil : i < σ'.length := by
              rw [← er.len]
              simpa using hl
            refine ⟨m', e.set i none, h, er.wip i _, sr, xr, ?_, p2⟩
            show (σ'.set i (some (.ref a)))[i]? = some (some (.ref a))
            rw [List.getElem?_set_self hil]
        · exact p.elim
      · subst hb
        exact hdlA_post ok r p m' σ' H' cls d g er sr xr
section
variable {X : Cx} {C : Cc} {W : WX}
theorem ms_tryA {tb : XT} {b : SM} {body : List Stmt} {h₀ : ExceptHandler} {hds : List ExceptHandler} {l : List (Nat × Option Nat × (XC → SM))} {pos : Pos} (hs : X.stack = X.env :: X.outer) (hf : X.env.frame = some X.env.locals) (hN : X.N.Nodup) (tk : Takes X W) (ok : Xf X.K C tb)
    (hb : ∀ (W : WX) (pn : List (Addr × Obj)) (xe : Value → Shared → Prop), Takes (X.tr pn xe) W → PassesOwn (model X.prog X.w) X.A X.env xe → PSs (X.tr pn xe) body (tS C X.K W b))
    (hh : HdMA X C (h₀ :: hds) l) : PS X (.Try body (h₀ :: hds) [] [] pos) (tS C X.K W (sTryA tb b l)) := by
  refine ⟨fun pins s σ H D I ⟨m, e, h, er, sr, p⟩ => ?_⟩
  unfold sTryA at p
  have key : ∀ x : XC, tS C X.K (wManyA X.K W D (l.map (hdA C X.K x))) b D σ H → wpAny (model X.prog X.w) X.A (exec (.Try body (h₀ :: hds) [] [] pos) X.env) (SP X pins D) X.xe s := fun x q =>
    (ps_try_A (tb := fun W => tS C X.K W b) hs hf hN tk hb (hh.ok x)).run pins s σ H D I q
  cases hbe : b e h with
  | exc x e1 h1 => rw [hbe] at p; exact key x ⟨m, e, h, er, sr, by rw [hbe]; exact hdlA_post ok l p⟩
  | nx _ _ => rw [hbe] at p; exact key ⟨0, none⟩ ⟨m, e, h, er, sr, by rw [hbe]; exact p⟩
  | rt _ _ => rw [hbe] at p; exact key ⟨0, none⟩ ⟨m, e, h, er, sr, by rw [hbe]; exact p⟩
  | bk _ _ => rw [hbe] at p; exact key ⟨0, none⟩ ⟨m, e, h, er, sr, by rw [hbe]; exact p⟩
  | ct _ _ => rw [hbe] at p; exact key ⟨0, none⟩ ⟨m, e, h, er, sr, by rw [hbe]; exact p⟩
  | bad => rw [hbe] at p; exact p.elim
end
end MM
namespace MM
open PySem L2 PySem.Spec PyProof.Rows PySem.W
theorem boot_super : bootBuiltins "super" = some (.type "super") := by first | rfl | kernel_rfl | boot_by_name
/-- the same without the module's names -/
structure SupK (P : Program) (K : Frag) (C : Addr) (fl : Str) : Prop where
  ex : ∃ f par fd, (∀ mg : Str → Option Value, mg "super" = none → SupF P K mg C f fl par fd) ∧ findIn K (.ref C) "__init__" = some (some (.ref f)) ∧ typeIn K (.ref f) = some (.type "function") ∧ L2.Binds K fd ["self", par] []
  xf : XfC K C
  no : findIn K (.ref C) fl = some none
theorem SupK.r {P : Program} {K : Frag} {C : Addr} {fl x : Str} {mg : Str → Option Value} (S : SupK P K C fl) (h1 : mg "super" = none) (h2 : mg x = some (.ref C)) : SupR P K mg x C fl := by
  obtain ⟨⟨f, par, fd, a, b, c, d⟩, xf, _⟩ := S
  exact ⟨⟨f, par, fd, a mg h1, b, c, d⟩, h2, xf⟩
theorem sup_k {P : Program} {K : Frag} {C f N cda cc : Addr} {fl par qual name nm q file : Str} {oc dV kV doc pm ct ccl cl : Value} {od an cdd cld dd : Option Addr} {osl ccs csl : Array (Option Value)} {vs : Array Value} {params : Arguments} {body : List Stmt} {scope : Scope} {tf : Tok}
    {bs bm : List Value} {sn : List Str} {sub : List Value} {ab : Bool} {col : Option Bool} {k0 k1 k2 k3 k5 : Option Value}
    (a1 : K.lookup C = some (excClassObj nm q C N bs bm true sn sub ab col dd k0 k1 k2 k3 k5 "ValueError.__new__")) (a2 : HandSPX.refsVE bm = true)
    (a3 : findIn K (.ref C) "__setattr__" = some (some (.builtin "object.__setattr__"))) (a4 : subIn K (.ref C) (.type "BaseException") = some true) (a5 : typeIn K (.ref C) = some (.type "type")) (a6 : keepIn K (.ref C) = true) (a7 : findIn K (.ref C) fl = some none)
    (a8 : findIn K (.ref C) "__init__" = some (some (.ref f))) (a9 : typeIn K (.ref f) = some (.type "function"))
    (b1 : K.lookup f = some ⟨oc, od, .func (ksFn name qual params body scope dV kV doc pm an (.ref cda) ct cc), osl⟩) (b2 : codeIn K (.ref cda) qual = true) (b3 : K.lookup cda = some ⟨ccl, cdd, .fields vs, ccs⟩) (b4 : vs[2]? = some (.str file tf)) (b5 : ((P.main.file : Str) == file) = true)
    (b6 : K.lookup cc = some ⟨cl, cld, .cell (some (.ref C)), csl⟩)
    (b7 : ∃ p0 p1 p2 p3 p4 p5 p6 p7 p8 p9 j txt, (p2.endLine == p4.line) = true ∧ body = [.Expr (.Call (.Attribute (.Call (.Name "super" p0) [] [] p1) "__init__" p2) [.Constant (.str txt) j p3] [] p4) p5, .Assign [.Attribute (.Name "self" p6) fl p7] (.Name par p8) p9])
    (b8 : ∃ ar, (params.posonlyargs ++ params.args).head? = some ar ∧ ar.arg = "self")
    (c1 : scope.names.lookup ("super" : Str) = some .globalImplicit ∧ scope.names.lookup ("__class__" : Str) = some .free ∧ scope.names.lookup ("self" : Str) = some .local ∧ scope.names.lookup par = some .local) (c2 : ∀ x ∈ scope.names, x.2 ≠ .cell) (c3 : scope.kind = .function ∧ scope.isCoroutine = false ∧ scope.isGenerator = false)
    (d1 : par ≠ "self" ∧ (par == ("__debug__" : Str)) = false) (d3 : (P.main.scope.names.lookup ("super" : Str)).isSome = false) (d4 : ks_superIn K C C "__init__" = some (some (.builtin "ValueError.__init__"))) (d5 : subIn K (.ref C) (.type "ValueError") = some true) (d6 : mroIn K C (.ref C) = some true)
    (d7 : nsIn K cStatics "thirdparty.any" = some none)
    (e1 : findIn K (.ref C) "__getattribute__" = some (some (.builtin "BaseException.__getattribute__"))) (e2 : findIn K (.ref C) "__getattr__" = some none) (e3 : hasDictIn K C = true)
    (f1 : ∀ u v : Value, bindArgs (ksFn name qual params body scope dV kV doc pm an (.ref cda) ct cc) ⟨[u, v], []⟩ = pure [(("self" : Str), u), (par, v)]) : SupK P K C fl :=
  ⟨⟨f, par, _, fun mg hms => ⟨⟨⟨nm, q, N, bs, bm, sn, sub, ab, col, dd, k0, k1, k2, k3, k5, a1, a2⟩, a3, a4, a5, a6⟩, a7, ⟨_, _, _, b1⟩, ⟨_, _, _, _, _, _, _, _, _, _, _, _, _, rfl, b2, ⟨_, _, _, _, _, _, b3, b4, b5⟩, ⟨_, _, _, b6⟩, b7, b8, c1.1, c1.2.1, c1.2.2.1, c1.2.2.2, c2, c3.1, c3.2.1, c3.2.2⟩, d1, hms, d3, d4, d5, d6, d7, boot_super⟩, a8, a9,
    L2.Binds.all fun us hl => by
      match us, hl with
      | [u, v], _ => exact f1 u v⟩, ⟨e1, e2, a4, e3⟩, a7⟩
end MM
namespace MM
open PySem L2 PySem.Spec PyProof.Rows
/-! comb, factorial -/
section
variable {X : Cx} {C : Cc} {W : WX}
def rComb : List V → Hp → VK → Prop := fun vs H Q => ∃ a b : Int, vs = [.int a, .int b] ∧ 0 ≤ a ∧ 0 ≤ b ∧ a < 2 ^ 64 ∧ (b ≤ 9000 ∨ a ≤ 18000) ∧ Q (.int (PySem.W.mcComb a b)) H
theorem cr_comb : CallR X (.builtin "math.comb") rComb := by
  intro pins s σ H vs us Q I r h
  obtain ⟨a, b, rfl, h1, h2, h3, h4, q⟩ := h
  obtain ⟨t, u, rfl⟩ := Vals.int2 r
  exact PySem.W.mc_comb h1 h2 h3 h4 fun _ => ⟨.int _, H, I.tok _, ⟨_, rfl⟩, q⟩
def bComb : IV → IV → IH → R IV
  | .int i, .int j, h => if 0 ≤ i ∧ 0 ≤ j ∧ i < 2 ^ 64 ∧ (j ≤ 9000 ∨ i ≤ 18000) then .ok (.int (PySem.W.mcComb i j)) h else .bad
  | _, _, _ => .bad
theorem m_comb {e e2' : Expr} {p pos : Pos} {f g : EM} (hg : Gl X "comb") (hm : X.mg "comb" = some (.builtin "math.comb")) (he : PE X e (tE C X.K W f)) (he2 : PE X e2' (tE C X.K W g)) (hs : starEach (e :: [e2']) X.env = (false, eval e X.env) :: starEach [e2'] X.env)
    (hs2 : starEach (e2' :: []) X.env = (false, eval e2' X.env) :: starEach [] X.env) (hp : (backTo pos (starEach [e2'] X.env)).any (·.1) = false) : PE X (.Call (.Name "comb" p) [e, e2'] [] pos) (tE C X.K W (e2 bComb f g)) :=
  pe_weak (pe_callBfun cr_comb hg hm (pa_cons he (pa_cons he2 pa_nil hs2) hs) (by decide) hs hp) fun σ H Q t => two_v (fun m H h x y u v Q s r1 r2 p => by
    unfold bComb at p
    split at p
    · split at p
      · rename_i hc
        simp only [rV, VR] at r1 r2
        subst r1; subst r2
        exact ⟨_, _, rfl, hc.1, hc.2.1, hc.2.2.1, hc.2.2.2, post_int s p⟩
      · exact p.elim
    · exact p.elim) t
def rFac : List V → Hp → VK → Prop := fun vs H Q => ∃ a : Int, vs = [.int a] ∧ 0 ≤ a ∧ a ≤ 20000 ∧ Q (.int ((Builtin.Math.factorialNat a.toNat : Nat) : Int)) H
theorem cr_fac : CallR X (.builtin "math.factorial") rFac := by
  intro pins s σ H vs us Q I r h
  obtain ⟨a, rfl, h1, h2, q⟩ := h
  cases r with
  | cons ra r' =>
  cases r'
  obtain ⟨t, rfl⟩ := ra
  exact PySem.W.mc_factorial h1 h2 fun _ => ⟨.int _, H, I.tok _, ⟨_, rfl⟩, q⟩
def uFac : IV → IH → R IV
  | .int i, h => if 0 ≤ i ∧ i ≤ 20000 then .ok (.int ((Builtin.Math.factorialNat i.toNat : Nat) : Int)) h else .bad
  | _, _ => .bad
theorem m_fac {e : Expr} {p pos : Pos} {f : EM} (hg : Gl X "factorial") (hm : X.mg "factorial" = some (.builtin "math.factorial")) (he : PE X e (tE C X.K W f)) (hs : starEach (e :: []) X.env = (false, eval e X.env) :: starEach [] X.env)
    (hp : (backTo pos (starEach [] X.env)).any (·.1) = false) : PE X (.Call (.Name "factorial" p) [e] [] pos) (tE C X.K W (e1 uFac f)) :=
  pe_weak (pe_callBfun cr_fac hg hm (pa_cons he pa_nil hs) (by decide) hs hp) fun σ H Q ⟨m, env, h, er, sr, p⟩ => ⟨m, env, h, er, sr, tg_run p fun m1 H1 x h1 u g1 s1 r1 p1 => by
    unfold uFac at p1
    split at p1
    · split at p1
      · rename_i hc
        simp only [rV, VR] at r1
        subst r1
        exact ⟨_, rfl, hc.1, hc.2, post_int s1 p1⟩
      · exact p1.elim
    · exact p1.elim⟩
end
end MM
namespace MM
open PySem L2 PySem.Spec PyProof.Rows
/-! set(list) of ints: the walk is the library's for a tuple, turned to a list -/
abbrev emp (w : World) : Obj := { cls := .type "set", dict := none, data := .set #[] 0 (.fresh 0 0 (!w.params.followText "set-order")) }
section
variable {P : Program} {w : World} {A : Around} {E : Value → Shared → Prop} {s : Shared}
theorem call_set_lstI {l : Addr} {items : Array Value} (ns : List Int) {Q : Value → Shared → Prop} (hh : A.handled = none) (hl : s.heap.IsList l items) (hit : IntsAre items.toList ns) (hb : ns.length + 1 < scanBound)
    (h : ∀ (h' : Heap) (tk c : Nat), SetR w h' s.heap.objs.size (fun j => decide (j ∈ ns)) c → c ≤ ns.length → (∀ b o, s.heap.get? b = some o → h'.get? b = some o) → Q (.ref s.heap.objs.size) { s with heap := h', toks := tk }) :
    wpAny (model P w) A (call (.type "set") [.ref l]) Q E s := by
  have hisz : items.size = ns.length := by
    have q := IntsAre.length hit
    rw [Array.length_toList] at q
    exact q
  obtain ⟨c, tl, hmro⟩ := F.called_set.mro
  have hmade := F.called_set.made
  have hsub := F.called_set.sub
  refine wpAny_call (codeAny_of_tree ?_)
  show wpAny _ _ (callAny (.type "set") _) _ _ _
  refine wpAny_pure ⟨Code.quiet_builtin _ (by decide +kernel), codeAny_builtin F.entry_type_call ?_⟩
  rw [Around.under_plain (weight_type_call_type "set" [.ref l] []) rfl]
  have h1 := F.called_set.notType
  have h2 := F.called_set.canCreate
  have hct := F.typeCall_set_1 (.ref l)
  repeat (any_goals (first | assumption | wp_step))

  refine codeAny_mono (code_set_led1 (.ref l) (E := E) (Q₁ := fun obj s₁ => obj = .ref s.heap.objs.size ∧ s₁ = { s with heap := s.heap.push (emp w) }) ⟨rfl, rfl⟩) fun r s₁ hr => ?_
  cases r with
  | error e => exact hr
  | ok fl =>
    cases fl with
    | ret obj =>
      obtain ⟨rfl, rfl⟩ := hr
      have hS : (s.heap.push (emp w)).get? s.heap.objs.size = some (emp w) := Heap.get?_push_size _ rfl
      have hT : Shared.TypeIs { s with heap := s.heap.push (emp w) } (.ref s.heap.objs.size) "set" := ⟨_, hS, rfl⟩
      have hli := F.called_set.init.lookup
      have hbi := F.called_set.init.bind (.ref s.heap.objs.size)
      repeat (any_goals (first | assumption | wp_step))

      refine codeAny_mono (codeAny_call_builtin (R := wants (fun r s₂ => r = .none ∧ ∃ h' tk c, s₂ = { s with heap := h', toks := tk } ∧ SetR w h' s.heap.objs.size (fun j => decide (j ∈ ns)) c ∧ c ≤ ns.length ∧
          (∀ b o, s.heap.get? b = some o → h'.get? b = some o)) E) F.called_set.init.plain F.entry_set_init (check_set_init_1 hT ?_)) fun r₂ s₂ hr₂ => ?_
      · obtain ⟨ol, hol, hcl, nl, hdl⟩ := hl
        obtain ⟨ocls, odict, odata, oslots⟩ := ol
        simp only at hcl hdl
        subst hcl; subst hdl
        have hol' : (s.heap.push (emp w)).get? l = some { cls := .type "list", dict := odict, data := .seq items nl, slots := oslots } := Heap.get?_push_of_some _ hol
        have hsls := F.sub_list_set
        have hslf := F.sub_list_frozenset
        have hne : (Value.type "list" == Value.type "dict") = false := by decide
        have hl1 : (s.heap.push (emp w)).IsList l items := ⟨_, hol', rfl, nl, rfl⟩
        unfold Builtin.«set.__init__» noKeywords Builtin.Frozenset.updateFrom
        generalize hPI : pyIter = PI
        wp_walk
        subst hPI

        refine wpAny_pyIter_list hl1 ?_
        refine wpAny_bind (wpAny_runValue ?_)
        have hlS : l < s.heap.objs.size := Heap.lt_size hol
        have hh3 : A.in1.in1.in1.handled = none := by simp [hh]
        have hz1 : (s.heap.push (emp w)).objs.size = s.heap.objs.size + 1 := Heap.size_push ..
        have hneI : l ≠ (s.heap.push (emp w)).objs.size := by
          rw [Heap.size_push]; exact Nat.ne_of_lt (Nat.lt_succ_of_lt hlS)
        have hSf : s.heap.objs.size ∉ [(s.heap.push (emp w)).objs.size, l] := by
          rw [Heap.size_push]; simp only [List.mem_cons, List.mem_singleton, List.not_mem_nil, or_false, not_or]
          exact ⟨Nat.ne_of_lt (Nat.lt_succ_self _), Nat.ne_of_gt hlS⟩
        have hval : ∀ (i : Nat) (v : Value), items[i]? = some v → ∃ k t, ns[i]? = some k ∧ v = .int k t := fun i v hv => by
          have hi : i < ns.length := by rw [← hisz]; exact (Array.getElem?_eq_some_iff.mp hv).1
          obtain ⟨t, e⟩ := PyProof.Rows.IntsAre.int_at hit i v (by rw [Array.getElem?_toList]; exact hv)
          refine ⟨ns[i], t, List.getElem?_eq_getElem hi, ?_⟩
          rw [e, List.getD_eq_getElem?_getD, List.getElem?_eq_getElem hi] <;> rfl
        refine set_update_ints ((Walks.list hh3 _ l hneI items).toS) s.heap.objs.size
          hSf ns hisz hb hval (items.size - 0) 0 _ (by omega) (Nat.zero_le _)
          ⟨⟨_, Heap.get?_push_size _ rfl, rfl, rfl⟩, (hl1.push _)⟩ ?hS0 ?hR
        case hS0 =>
          have hget : ((s.heap.push (emp w)).push { cls := .type "list_iterator", data := .fields #[.ref l, .int 0 0] }).get? s.heap.objs.size
              = some (emp w) := Heap.get?_push_of_some _ hS
          exact ⟨0, Nat.le_refl 0, setR_new_at hget⟩
        case hR =>
          intro s' c' hm hc' hS'
          obtain ⟨h', g2, d', tk', os'⟩ := s'
          have eg : g2 = s.gens := hm.gens
          have ed : d' = s.drawn := hm.drawn
          have eo : os' = s.os := hm.os
          subst eg; subst ed; subst eo
          show wpAny _ _ _ _ _ _
          refine wpAny_pure ?_
          show wpAny _ _ (ret Value.none) _ _ _
          rw [hisz] at hc'
          refine wpAny_pure ⟨rfl, h', tk', c', rfl, hS', hc', fun b o e => ?_⟩
          have hb0 : b < s.heap.objs.size := Heap.lt_size e
          have hb1 : b ≠ s.heap.objs.size := Nat.ne_of_lt hb0
          have hb2 : b ≠ (s.heap.push (emp w)).objs.size := by
            rw [Heap.size_push]; exact Nat.ne_of_lt (Nat.lt_succ_of_lt hb0)
          exact hm.heap b o (by simp only [List.mem_cons, List.mem_singleton, List.not_mem_nil, or_false, not_or]; exact ⟨hb1, hb2⟩) (Heap.get?_push_of_some _ (Heap.get?_push_of_some _ e))

      · cases r₂ with
        | error e => exact hr₂
        | ok fl₂ =>
          cases fl₂ with
          | ret r =>
            obtain ⟨rfl, h', tk, c', rfl, hS', hc', hk'⟩ := hr₂
            repeat (any_goals (first | assumption | wp_step))
            exact h _ _ _ hS' hc' hk'
          | _ => exact hr₂.elim
    | _ => exact hr.elim

end
theorem cr_setLstI {X : Cx} (hc : X.calm = true) : CallR X (.type "set") (fun vs H Q => ∃ (a : Addr) (ns : List Int), vs = [V.ref a] ∧ SqL X.K H a (ns.map V.int) ∧ ns.length + 1 < scanBound ∧
    ∀ (p : Addr) (n : Nat), H p = none → n ≤ ns.length → Q (.ref p) (upd H p (SetO X.w p (fun j => decide (j ∈ ns)) n))) := by
  intro pins s σ H vs us Q I r h
  obtain ⟨a, ns, rfl, hs, hb, q⟩ := h
  obtain ⟨its, rv, pt, hz⟩ := I.list hs
  rw [Vals.ref1 r]
  have hi : PyProof.Rows.IntsAre its.toArray.toList ns := rv.ints
  refine call_set_lstI ns (I.ok.hd hc) (show s.heap.IsList a its.toArray from pt.isList) hi hb fun h' tk c R hcn k => ?_
  have hf := I.hok.fresh (Nat.le_refl s.heap.objs.size)
  exact ⟨.ref _, _, I.laid (t' := tk) k (Nat.le_refl _) (setO_new R), rfl, q _ c hf hcn⟩
section
variable {X : Cx} {C : Cc} {W : WX}
/-- sorted(set(xs)), xs a list of ints -/
theorem m_sortSetL {e : Expr} {p p2 pos pos2 : Pos} {f : EM} (hc : X.calm = true) (hg : Gl X "sorted") (hm : X.mg "sorted" = none) (hg2 : Gl X "set") (hm2 : X.mg "set" = none) (he : PE X e (tE C X.K W f))
    (hs : starEach (e :: []) X.env = (false, eval e X.env) :: starEach [] X.env) (hp : (backTo pos2 (starEach [] X.env)).any (·.1) = false)
    (hs2 : starEach (.Call (.Name "set" p2) [e] [] pos2 :: []) X.env = (false, eval (.Call (.Name "set" p2) [e] [] pos2) X.env) :: starEach [] X.env) (hp2 : (backTo pos (starEach [] X.env)).any (·.1) = false) :
    PE X (.Call (.Name "sorted" p) [.Call (.Name "set" p2) [e] [] pos2] [] pos) (tL C X.K W (lSortSet (qLV f))) :=
  pe_weak (pe_callB (cr_sortedSet hc) hg hm (by decide +kernel) (pa_cons (pe_callTy (cr_setLstI hc) hg2 hm2 (by decide +kernel) (pa_cons he pa_nil hs) (by decide) (by decide) hs hp) pa_nil hs2) (by decide) (by decide) hs2 hp2) fun σ H Q ⟨m, env, h, er, sr, p⟩ => by
    refine ⟨m, env, h, er, sr, ?_⟩
    unfold lSortSet qLV at p
    cases hf : f env h with
    | exc x h1 => rw [hf] at p; exact p
    | bad => rw [hf] at p; exact p.elim
    | ok x h1 =>
      rw [hf] at p
      intro m1 H1 u g1 s1 r1
      simp only [R.bind] at p
      cases hx : itemsL h1 x with
      | none => rw [hx] at p; exact p.elim
      | some xs =>
        rw [hx] at p
        simp only [R.bind] at p
        cases hi : intsOf xs with
        | none => rw [hi] at p; exact p.elim
        | some ns =>
          rw [hi] at p
          dsimp only at p
          by_cases hlen : ns.length < 60
          · rw [if_pos hlen] at p
            obtain ⟨a, vs, rfl, t, rr⟩ := itemsL_rd s1 r1 hx
            rw [intsOf_map hi] at rr
            rw [VRs.ints rr] at t
            refine ⟨a, ns, rfl, t, by unfold scanBound; omega, fun q n hq hn => ⟨q, _, n, rfl, upd_same, by omega, fun ns' l pw mem ln hl => ?_⟩⟩
            have e : ns' = sortU ns := sortedU_eq pw (sortU_sorted ns) fun z => by
              rw [mem z, sortU_mem, decide_eq_true_eq]
            rw [e]
            have g2 : Go X.K m1 H1 m1 (upd (upd H1 q (SetO X.w q (fun j => decide (j ∈ ns)) n)) l (.lst ((sortU ns).map V.int))) := (Go.laid hq).trans (Go.laid hl)
            have s2 : SR X.K m1 (upd H1 q (SetO X.w q (fun j => decide (j ∈ ns)) n)) h1 := s1.laid hq
            have hl1 : H1 l = none := by
              cases z : H1 l with
              | none => rfl
              | some o => rw [upd_ne (ne_of_none z hq), z] at hl; cases hl
            refine p m1 _ _ (g1.trans g2) (s2.laid hl) ⟨l, _, rfl, s2.fresh hl, fun hlm => ?_, upd_same, VRs.of_ints _⟩
            exact fresh_back g1 (fun _ => hl1) hlm
          · rw [if_neg hlen] at p; exact p.elim
end
end MM
namespace MM
open PySem L2 PySem.Spec PyProof.Rows
/-! for c in text -/
def sgns (z : Str) : List IV := z.cps.toList.map fun c => .str ⟨#[c]⟩
def iStrM (f : EM) : ItM := fun e h => (f e h).bind fun x h1 => match x with
  | .str z => .ok (sgns z, fun _ => true) h1
  | _ => .bad
theorem walk_sgns {z : Str} : Walk (Its z) (z.cps.toList.map fun c => V.str ⟨#[c]⟩).length (fun _ => True) (YAt (z.cps.toList.map fun c => V.str ⟨#[c]⟩)) := by
  have w := walk_str (z := z)
  have e : (z.cps.toList.map fun c => V.str ⟨#[c]⟩).length = z.cps.size := by rw [List.length_map, Array.length_toList]
  rw [e]
  refine ⟨w.goes, w.stops, fun i H x H' hi g y => ?_⟩
  obtain ⟨h1, c, hc, hx⟩ := w.yields i H x H' hi g y
  refine ⟨h1, ?_⟩
  rw [List.getElem?_map, Array.getElem?_toList, hc, hx]
  rfl
theorem sgns_rel {K : PySem.W.Frag} {m : List Addr} {H : Hp} : ∀ cs : List Nat, VRs K m H (cs.map fun c => IV.str ⟨#[c]⟩) (cs.map fun c => V.str ⟨#[c]⟩)
  | [] => by simp only [List.map_nil, VRs]
  | c :: cs => by
    simp only [List.map_cons, VRs, VR]
    exact ⟨_, _, rfl, rfl, sgns_rel cs⟩
section
variable {X : Cx} {C : Cc} {W : WX}
theorem mi_str {tg ex : Expr} {f : EM} (he : PE X ex (tE C X.K W f)) : PI X tg ex (tIt C X.K W (iStrM f)) :=
  ⟨fun pins s σ H R I ⟨m, e, h, er, sr, p⟩ => (pi_str (tg := tg) he).run pins s σ H R I ⟨m, e, h, er, sr, tg_run p fun m1 H1 x h1 u g1 s1 r1 p1 => by
    cases x <;> first | exact p1.elim | skip
    rename_i z
    simp only [rV, VR] at r1
    exact ⟨z, r1, p1 m1 H1 _ Go.refl s1 (walkAt walk_sgns (sgns_rel _) fun _ _ _ _ _ _ => trivial)⟩⟩⟩
end
end MM
namespace MM
open PySem L2 PySem.Spec PyProof.Rows
/-! M31: * of great numbers -/
section
variable {X : Cx} {C : Cc} {W : WX}
def mulX (x y : IV) (h : IH) : R IV := match x, y with
  | .int i, .int j => if ((-(2 ^ 64) < i ∧ i < 2 ^ 64) ∨ (-(2 ^ 64) < j ∧ j < 2 ^ 64)) ∨ i.natAbs.log2 + j.natAbs.log2 < 134000000 then .ok (.int (i * j)) h else .bad
  | x, y => mulT x y h
theorem om_mulX : OpM X C (binaryOp .Mult) mulX := by
  obtain ⟨r0, h0, g0⟩ := (om_mulT : OpM X C (binaryOp .Mult) mulT)
  refine ⟨_, h0.or op_mulX, fun W σ m H h x y u v Q s rx ry p => ?_⟩
  unfold mulX at p
  split at p
  · rename_i i j
    split at p
    · rename_i hk
      rcases hk with hk | hk
      · refine .inl (g0 W σ m H h _ _ u v Q s rx ry ?_)
        have e : mulT (.int i) (.int j) h = .ok (.int (i * j)) h := if_pos (.inl hk)
        rw [e]
        exact p
      · simp only [rV, VR] at rx ry
        subst rx; subst ry
        refine .inr ⟨_, _, rfl, rfl, ?_, post_int s p⟩
        have b : ∀ x : Int, Builtin.Int.intBits x ≤ x.natAbs.log2 + 1 := fun x => by
          unfold Builtin.Int.intBits
          split <;> omega
        have h1 := b i
        have h2 := b j
        show (Builtin.Int.intBits i : Int) + (Builtin.Int.intBits j : Int) ≤ 134217728
        omega
    · exact p.elim
  · exact .inl (g0 W σ m H h _ _ u v Q s rx ry p)
end
end MM
namespace MM
open PySem L2 PySem.Spec PyProof.Rows
/-! M32: sorted(set(..)) of rows of ints -/
def insT (L : List Int) : List (List Int) → List (List Int)
  | [] => [L]
  | M :: Ms => if L < M then L :: M :: Ms else if L = M then M :: Ms else M :: insT L Ms
def sortT : List (List Int) → List (List Int)
  | [] => []
  | L :: Ls => insT L (sortT Ls)
theorem lt_of_not {L M : List Int} (h1 : ¬ L < M) (h2 : L ≠ M) : M < L := Classical.byContradiction fun h3 => h2 (List.le_antisymm h3 h1)
theorem insT_mem {L z : List Int} : ∀ {Ms : List (List Int)}, z ∈ insT L Ms ↔ z = L ∨ z ∈ Ms
  | [] => by simp [insT]
  | M :: Ms => by
    unfold insT
    split
    · simp
    · split
      · rename_i h; subst h; simp
      · rw [List.mem_cons, insT_mem, List.mem_cons]
        constructor
        · rintro (h | h | h)
          · exact .inr (.inl h)
          · exact .inl h
          · exact .inr (.inr h)
        · rintro (h | h | h)
          · exact .inr (.inl h)
          · exact .inl h
          · exact .inr (.inr h)
theorem insT_sorted {L : List Int} : ∀ {Ms : List (List Int)}, Ms.Pairwise (· < ·) → (insT L Ms).Pairwise (· < ·)
  | [], _ => by simp [insT]
  | M :: Ms, h => by
    obtain ⟨h1, h2⟩ := List.pairwise_cons.mp h
    unfold insT
    split
    · rename_i hl
      exact List.pairwise_cons.mpr ⟨fun z hz => by rcases List.mem_cons.mp hz with rfl | hz; exact hl; exact List.lt_trans hl (h1 z hz), h⟩
    · rename_i hl
      split
      · exact h
      · rename_i hn
        exact List.pairwise_cons.mpr ⟨fun z hz => by
          rcases insT_mem.mp hz with rfl | hz
          · exact lt_of_not hl hn
          · exact h1 z hz, insT_sorted h2⟩
theorem sortT_sorted : ∀ Ls : List (List Int), (sortT Ls).Pairwise (· < ·)
  | [] => .nil
  | L :: Ls => insT_sorted (sortT_sorted Ls)
theorem sortT_mem {z : List Int} : ∀ {Ls : List (List Int)}, z ∈ sortT Ls ↔ z ∈ Ls
  | [] => by simp [sortT]
  | L :: Ls => by
    unfold sortT
    rw [insT_mem, sortT_mem, List.mem_cons]
theorem sortedT_eq : ∀ {A B : List (List Int)}, A.Pairwise (· < ·) → B.Pairwise (· < ·) → (∀ z, z ∈ A ↔ z ∈ B) → A = B
  | [], [], _, _, _ => rfl
  | [], b :: B, _, _, h => by have := (h b).mpr (List.mem_cons_self ..); cases this
  | a :: A, [], _, _, h => by have := (h a).mp (List.mem_cons_self ..); cases this
  | a :: A, b :: B, ha, hb, h => by
    obtain ⟨a1, a2⟩ := List.pairwise_cons.mp ha
    obtain ⟨b1, b2⟩ := List.pairwise_cons.mp hb
    have e : a = b := by
      rcases List.mem_cons.mp ((h a).mp (List.mem_cons_self ..)) with e | m
      · exact e
      · rcases List.mem_cons.mp ((h b).mpr (List.mem_cons_self ..)) with e | m2
        · exact e.symm
        · exact absurd (b1 a m) (List.lt_asymm (a1 b m2))
    subst e
    rw [sortedT_eq a2 b2 fun z => ?_]
    have hz := h z
    rw [List.mem_cons, List.mem_cons] at hz
    constructor
    · intro m
      rcases hz.mp (.inr m) with e | m2
      · subst e; exact absurd (a1 z m) (List.lt_irrefl z)
      · exact m2
    · intro m
      rcases hz.mpr (.inr m) with e | m2
      · subst e; exact absurd (b1 z m) (List.lt_irrefl z)
      · exact m2
def tupsOf : List IV → Option (List (List Int))
  | [] => some []
  | .tup xs :: r => match intsOf xs with
    | some ns => (tupsOf r).map (ns :: ·)
    | none => none
  | _ :: _ => none
def okT (Ls : List (List Int)) : Bool := decide (Ls.length < 60) && (Ls.all fun L => L.all fun x => decide (0 ≤ x)) && match Ls with
  | [] => true
  | L :: _ => decide (1 ≤ L.length) && Ls.all fun M => decide (M.length = L.length)
def lSortSetT (f : IEnv → IH → R (List IV)) : IEnv → IH → R (List IV) := fun env h => (f env h).bind fun xs h1 => match tupsOf xs with
  | some Ls => if okT Ls = true then .ok ((sortT Ls).map fun L => .tup (L.map .int)) h1 else .bad
  | none => .bad
theorem okT_len {ks : List (Addr × List Int)} {Ls : List (List Int)} (e : Ls = ks.map (·.2)) (hok : okT Ls = true) : ks.length < 64 := by
  unfold okT at hok
  rw [Bool.and_eq_true, Bool.and_eq_true, decide_eq_true_eq, e, List.length_map] at hok
  omega
theorem sum_mem : ∀ {l : List Int}, (∀ y ∈ l, 0 ≤ y) → 0 ≤ l.sum ∧ ∀ x ∈ l, x ≤ l.sum
  | [], _ => ⟨Int.le_refl _, fun _ h => by cases h⟩
  | y :: l, h => by
    obtain ⟨h1, h2⟩ := sum_mem (l := l) fun z hz => h z (List.mem_cons_of_mem _ hz)
    have hy := h y (List.mem_cons_self ..)
    rw [List.sum_cons]
    refine ⟨by omega, fun x hx => ?_⟩
    rcases List.mem_cons.mp hx with rfl | hx
    · omega
    · have := h2 x hx; omega
theorem code_of_lt {B : Int} : ∀ {L M : List Int}, L.length = M.length → TS.Bd B L → TS.Bd B M → L < M → TS.code B L < TS.code B M
  | [], [], _, _, _, h => absurd h (List.lt_irrefl [])
  | a :: L, b :: M, hl, h1, h2, h => by
    have hl' : L.length = M.length := by simpa using hl
    rcases List.cons_lt_cons_iff.mp h with h3 | ⟨e, h3⟩
    · exact TS.code_lt hl' h1.tail h2.tail h3
    · subst e
      exact (TS.code_same hl').mpr (code_of_lt hl' h1.tail h2.tail h3)
section
variable {K : PySem.W.Frag} {m : List Addr} {H : Hp}
theorem tups_rel : ∀ {xs : List IV} {vs : List V} {Ls : List (List Int)}, VRs K m H xs vs → tupsOf xs = some Ls → ∃ ks : List (Addr × List Int), vs = ks.map (fun p => V.ref p.1) ∧ Ls = ks.map (·.2) ∧ ∀ p ∈ ks, VR K m H (.tup (p.2.map .int)) (.ref p.1)
  | [], vs, Ls, r, e => by
    simp only [VRs] at r
    subst r
    cases e
    exact ⟨[], rfl, rfl, fun _ h => by cases h⟩
  | x :: xs, vs, Ls, r, e => by
    simp only [VRs] at r
    obtain ⟨v, q, rfl, r1, r2⟩ := r
    cases x <;> first | (simp only [tupsOf] at e; cases e; done) | skip
    rename_i ys
    simp only [tupsOf] at e
    cases hi : intsOf ys with
    | none => rw [hi] at e; cases e
    | some ns =>
      rw [hi] at e
      cases ht : tupsOf xs with
      | none => rw [ht] at e; cases e
      | some Ms =>
        rw [ht] at e
        cases e
        obtain ⟨ks, e1, e2, e3⟩ := tups_rel r2 ht
        rw [intsOf_map hi] at r1
        have r1' := r1
        simp only [VR] at r1'
        obtain ⟨a, ws, rfl, -, -⟩ := r1'
        refine ⟨(a, ns) :: ks, by rw [e1]; rfl, by rw [e2]; rfl, fun p hp => ?_⟩
        rcases List.mem_cons.mp hp with rfl | hp
        · exact r1
        · exact e3 p hp
theorem vr_sqt {ns : List Int} {a : Addr} (r : VR K m H (.tup (ns.map .int)) (.ref a)) : SqT K H a (ns.map V.int) := by
  simp only [VR] at r
  obtain ⟨b, vs, e, t, rr⟩ := r
  cases e
  rw [VRs.ints rr] at t
  exact t.sq
theorem vrs_rows : ∀ (L : List (Addr × List Int)), (∀ p ∈ L, VR K m H (.tup (p.2.map .int)) (.ref p.1)) → VRs K m H (L.map fun p => .tup (p.2.map .int)) (L.map fun p => V.ref p.1)
  | [], _ => by simp only [List.map_nil, VRs]
  | p :: L, h => by
    simp only [List.map_cons, VRs]
    exact ⟨_, _, rfl, h p (List.mem_cons_self ..), vrs_rows L fun q hq => h q (List.mem_cons_of_mem _ hq)⟩
end
section
variable {P : Program} {w : World} {A : Around} {E : Value → Shared → Prop} {s : Shared}
theorem call_set_tupT {l : Addr} {items : Array Value} (ks : List (Addr × List Int)) {Q : Value → Shared → Prop} (hh : A.handled = none) (hl : s.heap.IsTuple l items) (hit : items.toList = ks.map fun p => Value.ref p.1)
    (hk : ∀ p ∈ ks, IsT P w s.heap p.2 p.1) (hfew : ks.length < 64) (hu : A.units + 3 < cLine)
    (h : ∀ (h' : Heap) (tk : Nat) L es ep t, SetTR P w h' s.heap.objs.size L es ep t → Got ks ks.length L → (∀ b o, s.heap.get? b = some o → h'.get? b = some o) → Q (.ref s.heap.objs.size) { s with heap := h', toks := tk }) :
    wpAny (model P w) A (call (.type "set") [.ref l]) Q E s := by
  have hisz : items.size = ks.length := by
    have q := congrArg List.length hit
    rw [Array.length_toList, List.length_map] at q
    exact q
  obtain ⟨c, tl, hmro⟩ := F.called_set.mro
  have hmade := F.called_set.made
  have hsub := F.called_set.sub
  refine wpAny_call (codeAny_of_tree ?_)
  show wpAny _ _ (callAny (.type "set") _) _ _ _
  refine wpAny_pure ⟨Code.quiet_builtin _ (by decide +kernel), codeAny_builtin F.entry_type_call ?_⟩
  rw [Around.under_plain (weight_type_call_type "set" [.ref l] []) rfl]
  have h1 := F.called_set.notType
  have h2 := F.called_set.canCreate
  have hct := F.typeCall_set_1 (.ref l)
  repeat (any_goals (first | assumption | wp_step))

  refine codeAny_mono (code_set_led1 (.ref l) (E := E) (Q₁ := fun obj s₁ => obj = .ref s.heap.objs.size ∧ s₁ = { s with heap := s.heap.push (emp w) }) ⟨rfl, rfl⟩) fun r s₁ hr => ?_
  cases r with
  | error e => exact hr
  | ok fl =>
    cases fl with
    | ret obj =>
      obtain ⟨rfl, rfl⟩ := hr
      have hS : (s.heap.push (emp w)).get? s.heap.objs.size = some (emp w) := Heap.get?_push_size _ rfl
      have hT : Shared.TypeIs { s with heap := s.heap.push (emp w) } (.ref s.heap.objs.size) "set" := ⟨_, hS, rfl⟩
      have hli := F.called_set.init.lookup
      have hbi := F.called_set.init.bind (.ref s.heap.objs.size)
      repeat (any_goals (first | assumption | wp_step))

      refine codeAny_mono (codeAny_call_builtin (R := wants (fun r s₂ => r = .none ∧ ∃ h' tk L es ep t, s₂ = { s with heap := h', toks := tk } ∧ SetTR P w h' s.heap.objs.size L es ep t ∧ Got ks ks.length L ∧
          (∀ b o, s.heap.get? b = some o → h'.get? b = some o)) E) F.called_set.init.plain F.entry_set_init (check_set_init_1 hT ?_)) fun r₂ s₂ hr₂ => ?_
      · obtain ⟨ol, hol, hcl, nl, hdl⟩ := hl
        obtain ⟨ocls, odict, odata, oslots⟩ := ol
        simp only at hcl hdl
        subst hcl; subst hdl
        have hol' : (s.heap.push (emp w)).get? l = some { cls := .type "tuple", dict := odict, data := .seq items nl, slots := oslots } := Heap.get?_push_of_some _ hol
        have hsls := F.sub_tuple_set
        have hslf := F.sub_tuple_frozenset
        have hne : (Value.type "tuple" == Value.type "dict") = false := by decide
        have hl1 : (s.heap.push (emp w)).IsTuple l items := ⟨_, hol', rfl, nl, rfl⟩
        unfold Builtin.«set.__init__» noKeywords Builtin.Frozenset.updateFrom
        generalize hPI : pyIter = PI
        wp_walk
        subst hPI

        refine wpAny_pyIter_tuple hl1 ?_
        refine wpAny_bind (wpAny_runValue ?_)
        have hlS : l < s.heap.objs.size := Heap.lt_size hol
        have hh3 : A.in1.in1.in1.handled = none := by simp [hh]
        have hneI : l ≠ (s.heap.push (emp w)).objs.size := by
          rw [Heap.size_push]; exact Nat.ne_of_lt (Nat.lt_succ_of_lt hlS)
        have hSf : s.heap.objs.size ∉ [(s.heap.push (emp w)).objs.size, l] := by
          rw [Heap.size_push]; simp only [List.mem_cons, List.mem_singleton, List.not_mem_nil, or_false, not_or]
          exact ⟨Nat.ne_of_lt (Nat.lt_succ_self _), Nat.ne_of_gt hlS⟩
        have hval : ∀ (i : Nat) (v : Value), items[i]? = some v → ∃ p, ks[i]? = some p ∧ v = .ref p.1 := fun i v hv => by
          have q : items.toList[i]? = some v := by rw [Array.getElem?_toList]; exact hv
          rw [hit, List.getElem?_map] at q
          cases hq : ks[i]? with
          | none => rw [hq] at q; cases q
          | some p =>
            rw [hq] at q
            exact ⟨p, rfl, (Option.some.inj q).symm⟩
        have none_of : ∀ b, s.heap.objs.size ≤ b → s.heap.get? b = none := fun b hb => by
          cases q : s.heap.get? b with
          | none => rfl
          | some o => exact absurd (Nat.lt_of_lt_of_le (Heap.lt_size q) hb) (Nat.lt_irrefl _)
        refine set_update_tups ((Walks.tuple hh3 _ l hneI items).toS) s.heap.objs.size
          hSf ks hisz hfew hval s.heap hk (none_of _ (Nat.le_refl _)) (fun b hb => none_of b (by
            rw [List.mem_singleton.mp hb, Heap.size_push]
            exact Nat.le_succ _)) hu (items.size - 0) 0 _ (by omega) (Nat.zero_le _)
          ⟨⟨_, Heap.get?_push_size _ rfl, rfl, rfl⟩, (hl1.push _)⟩ (fun b o e => Heap.get?_push_of_some _ (Heap.get?_push_of_some _ e)) ?hS0 ?hR
        case hS0 =>
          have hget : ((s.heap.push (emp w)).push { cls := .type "tuple_iterator", data := .fields #[.ref l, .int 0 0] }).get? s.heap.objs.size = some (emp w) := Heap.get?_push_of_some _ hS
          exact ⟨[], #[], 0, _, setTR_fresh hget, Got.zero ks⟩
        case hR =>
          intro s' L es ep t hm hS' g' hkp
          obtain ⟨h', g2, d', tk', os'⟩ := s'
          have eg : g2 = s.gens := hm.gens
          have ed : d' = s.drawn := hm.drawn
          have eo : os' = s.os := hm.os
          subst eg; subst ed; subst eo
          show wpAny _ _ _ _ _ _
          refine wpAny_pure ?_
          show wpAny _ _ (ret Value.none) _ _ _
          rw [hisz] at g'
          exact wpAny_pure ⟨rfl, h', tk', L, es, ep, t, rfl, hS', g', hkp⟩

      · cases r₂ with
        | error e => exact hr₂
        | ok fl₂ =>
          cases fl₂ with
          | ret r =>
            obtain ⟨rfl, h', tk, L, es, ep, t, rfl, hS', g', hk'⟩ := hr₂
            repeat (any_goals (first | assumption | wp_step))
            exact h _ _ _ _ _ _ hS' g' hk'
          | _ => exact hr₂.elim
    | _ => exact hr.elim
end
theorem cr_setTT {X : Cx} (hc : X.calm = true) (hu : X.A.units + 64 < cLine) : CallR X (.type "set") (fun xs H Q => ∃ (l : Addr) (ks : List (Addr × List Int)), xs = [V.ref l] ∧ SqT X.K H l (ks.map fun p => V.ref p.1) ∧ (∀ p ∈ ks, SqT X.K H p.1 (p.2.map V.int)) ∧ ks.length < 64 ∧
    ∀ a L, H a = none → (∀ p ∈ L, p ∈ ks) → (∀ p ∈ ks, p.2 ∈ L.map (·.2)) → Q (.ref a) (upd H a (SetTO X.prog X.w a L))) := by
  intro pins s σ H xs us Q I r h
  obtain ⟨l, ks, rfl, hl, hk, hf, q⟩ := h
  rw [Vals.ref1 r]
  obtain ⟨its, rv, ⟨o, ho, hcl, n, hd⟩, hz⟩ := I.tuple hl
  have hn : H s.heap.objs.size = none := I.hok.fresh (Nat.le_refl _)
  refine call_set_tupT (P := X.prog) (w := X.w) ks (I.ok.hd hc) (items := its.toArray) ⟨o, ho, hcl, n, hd⟩ (by simpa using refs_of_vals rv) (fun p hp => I.isT (hk p hp)) hf (by omega) fun h' tk L es ep t R g k => ?_
  refine ⟨.ref s.heap.objs.size, upd H s.heap.objs.size (SetTO X.prog X.w s.heap.objs.size L), I.laid (t' := tk) k (Nat.le_refl _) (setTO_new R.t0), rfl, q _ L hn (fun p hp => ?_) fun p hp => ?_⟩
  · exact List.mem_of_mem_take (g.sub p hp)
  · exact g.all p (by rw [List.take_length]; exact hp)
section
variable {X : Cx} {C : Cc} {W : WX}
/-- what the two calls leave -/
theorem sortT_post {m m1 : List Addr} {H H1 : Hp} {h1 : IH} {ks : List (Addr × List Int)} {Ls : List (List Int)} (g1 : Go X.K m H m1 H1) (s1 : SR X.K m1 H1 h1) (eL : Ls = ks.map (·.2)) (hv : ∀ p ∈ ks, VR X.K m1 H1 (.tup (p.2.map .int)) (.ref p.1)) (hok : okT Ls = true) {q : Addr} {L : List (Addr × List Int)} (hq : H1 q = none) (hs : ∀ p ∈ L, p ∈ ks) (ha : ∀ p ∈ ks, p.2 ∈ L.map (·.2))
    {Q : V → Hp → Prop} (p : ∀ (l : Addr) (H2 : Hp) (L' : List (Addr × List Int)), Go X.K m H m1 H2 → SR X.K m1 H2 h1 → l ∉ m1 → (l ∉ m → H l = none) → H2 l = some (.lst (L'.map fun q => V.ref q.1)) → VRs X.K m1 H2 ((sortT Ls).map fun L => .tup (L.map .int)) (L'.map fun q => V.ref q.1) → Q (.ref l) H2) :
    rSortedT X.K X.prog X.w [.ref q] (upd H1 q (SetTO X.prog X.w q L)) Q := by
  unfold okT at hok
  rw [Bool.and_eq_true, Bool.and_eq_true, decide_eq_true_eq, List.all_eq_true] at hok
  obtain ⟨⟨o1, o2⟩, o3⟩ := hok
  have nn : ∀ y ∈ Ls.flatten, 0 ≤ y := fun y hy => by
    obtain ⟨M, hM, hy⟩ := List.mem_flatten.mp hy
    exact of_decide_eq_true (List.all_eq_true.mp (o2 M hM) y hy)
  have sm := sum_mem nn
  have bd : ∀ M ∈ Ls, TS.Bd (Ls.flatten.sum + 1) M := fun M hM x hx => by
    have hm : x ∈ Ls.flatten := List.mem_flatten.mpr ⟨M, hM, hx⟩
    have := sm.2 x hm
    exact ⟨nn x hm, by omega⟩
  obtain ⟨d, d1, hd⟩ : ∃ d, 1 ≤ d ∧ ∀ M ∈ Ls, M.length = d := by
    cases Ls with
    | nil => exact ⟨1, Nat.le_refl _, fun _ h => by cases h⟩
    | cons M Ms =>
      dsimp only at o3
      rw [Bool.and_eq_true, decide_eq_true_eq, List.all_eq_true] at o3
      exact ⟨M.length, o3.1, fun N hN => of_decide_eq_true (o3.2 N hN)⟩
  have kL : ∀ r ∈ ks, r.2 ∈ Ls := fun r hr => by rw [eL]; exact List.mem_map.mpr ⟨r, hr, rfl⟩
  have g2 : Go X.K m1 H1 m1 (upd H1 q (SetTO X.prog X.w q L)) := Go.laid hq
  refine ⟨q, L, d, Ls.flatten.sum + 1, rfl, upd_same, fun r hr => vr_sqt (VR.mono g2 _ _ (hv r (hs r hr))), d1, fun r hr => ⟨hd _ (kL r (hs r hr)), bd _ (kL r (hs r hr))⟩, fun L' l pm nd few pw hl => ?_⟩
  have e : L'.map (·.2) = sortT Ls := by
    refine sortedT_eq ?_ (sortT_sorted Ls) fun z => ?_
    · refine List.pairwise_map.mpr (List.Pairwise.imp_of_mem (R := fun q r => TS.code (Ls.flatten.sum + 1) q.2 ≤ TS.code (Ls.flatten.sum + 1) r.2 ∧ q.2 ≠ r.2) (fun {a b} ha' hb' h => ?_) (pw.and (List.pairwise_map.mp nd)))
      have a1 := kL a (hs a (pm.mem_iff.mp ha'))
      have b1 := kL b (hs b (pm.mem_iff.mp hb'))
      refine Classical.byContradiction fun hn => ?_
      have := code_of_lt (by rw [hd _ a1, hd _ b1]) (bd _ b1) (bd _ a1) (lt_of_not hn h.2)
      omega
    · rw [sortT_mem, eL]
      constructor
      · intro hz
        obtain ⟨r, hr, rfl⟩ := List.mem_map.mp hz
        exact List.mem_map.mpr ⟨r, hs r (pm.mem_iff.mp hr), rfl⟩
      · intro hz
        obtain ⟨r, hr, rfl⟩ := List.mem_map.mp hz
        obtain ⟨r2, h2, e2⟩ := List.mem_map.mp (ha r hr)
        exact List.mem_map.mpr ⟨r2, pm.mem_iff.mpr h2, e2⟩
  have g3 : Go X.K m1 (upd H1 q (SetTO X.prog X.w q L)) m1 (upd (upd H1 q (SetTO X.prog X.w q L)) l (.lst (L'.map fun q => V.ref q.1))) := Go.laid hl
  have s2 : SR X.K m1 (upd H1 q (SetTO X.prog X.w q L)) h1 := s1.laid hq
  have hl1 : H1 l = none := by
    cases z : H1 l with
    | none => rfl
    | some o => rw [upd_ne (ne_of_none z hq), z] at hl; cases hl
  refine p l _ L' ((g1.trans g2).trans g3) (s2.laid hl) (s2.fresh hl) (fun hlm => fresh_back g1 (fun _ => hl1) hlm) upd_same ?_
  rw [← e, List.map_map]
  exact vrs_rows L' fun r hr => VR.mono g3 _ _ (VR.mono g2 _ _ (hv r (hs r (pm.mem_iff.mp hr))))
theorem m_sortSetT {e : Expr} {p p2 pos pos2 : Pos} {f : EM} (hc : X.calm = true) (hu : X.A.units + 64 < cLine) (hg : Gl X "sorted") (hm : X.mg "sorted" = none) (hg2 : Gl X "set") (hm2 : X.mg "set" = none) (he : PE X e (tE C X.K W f))
    (hs : starEach (e :: []) X.env = (false, eval e X.env) :: starEach [] X.env) (hp : (backTo pos2 (starEach [] X.env)).any (·.1) = false)
    (hs2 : starEach (.Call (.Name "set" p2) [e] [] pos2 :: []) X.env = (false, eval (.Call (.Name "set" p2) [e] [] pos2) X.env) :: starEach [] X.env) (hp2 : (backTo pos (starEach [] X.env)).any (·.1) = false) :
    PE X (.Call (.Name "sorted" p) [.Call (.Name "set" p2) [e] [] pos2] [] pos) (tL C X.K W (lSortSetT (iTupV f))) :=
  pe_weak (pe_callB (cr_sortedT hc) hg hm (by decide +kernel) (pa_cons (pe_callTy (cr_setTT hc hu) hg2 hm2 (by decide +kernel) (pa_cons he pa_nil hs) (by decide) (by decide) hs hp) pa_nil hs2) (by decide) (by decide) hs2 hp2) fun σ H Q ⟨m, env, h, er, sr, p⟩ => by
    refine ⟨m, env, h, er, sr, ?_⟩
    unfold lSortSetT iTupV at p
    cases hf : f env h with
    | exc x h1 => rw [hf] at p; exact p
    | bad => rw [hf] at p; exact p.elim
    | ok x h1 =>
      rw [hf] at p
      intro m1 H1 u g1 s1 r1
      simp only [R.bind] at p
      cases x <;> first | exact p.elim | skip
      rename_i xs
      dsimp only at p
      cases ht : tupsOf xs with
      | none => rw [ht] at p; exact p.elim
      | some Ls =>
        rw [ht] at p
        dsimp only at p
        by_cases hok : okT Ls = true
        · rw [if_pos hok] at p
          have r1 : VR X.K m1 H1 (.tup xs) u := r1
          simp only [VR] at r1
          obtain ⟨a, vs, rfl, t, rr⟩ := r1
          obtain ⟨ks, e1, e2, e3⟩ := tups_rel rr ht
          rw [e1] at t
          exact ⟨a, ks, rfl, t.sq, fun r hr => vr_sqt (e3 r hr), okT_len e2 hok, fun q L hq hs ha => sortT_post g1 s1 e2 e3 hok hq hs ha fun l H2 L' g s n1 n2 e r => p m1 H2 _ g s ⟨l, _, rfl, n1, n2, e, r⟩⟩
        · rw [if_neg hok] at p; exact p.elim
theorem m_sortSetTL {e : Expr} {p p2 pos pos2 : Pos} {f : EM} (hc : X.calm = true) (hu : X.A.units + 64 < cLine) (hg : Gl X "sorted") (hm : X.mg "sorted" = none) (hg2 : Gl X "set") (hm2 : X.mg "set" = none) (he : PE X e (tE C X.K W f))
    (hs : starEach (e :: []) X.env = (false, eval e X.env) :: starEach [] X.env) (hp : (backTo pos2 (starEach [] X.env)).any (·.1) = false)
    (hs2 : starEach (.Call (.Name "set" p2) [e] [] pos2 :: []) X.env = (false, eval (.Call (.Name "set" p2) [e] [] pos2) X.env) :: starEach [] X.env) (hp2 : (backTo pos (starEach [] X.env)).any (·.1) = false) :
    PE X (.Call (.Name "sorted" p) [.Call (.Name "set" p2) [e] [] pos2] [] pos) (tL C X.K W (lSortSetT (qLV f))) :=
  pe_weak (pe_callB (cr_sortedT hc) hg hm (by decide +kernel) (pa_cons (pe_callTy (cr_setOfT hc hu) hg2 hm2 (by decide +kernel) (pa_cons he pa_nil hs) (by decide) (by decide) hs hp) pa_nil hs2) (by decide) (by decide) hs2 hp2) fun σ H Q ⟨m, env, h, er, sr, p⟩ => by
    refine ⟨m, env, h, er, sr, ?_⟩
    unfold lSortSetT qLV at p
    cases hf : f env h with
    | exc x h1 => rw [hf] at p; exact p
    | bad => rw [hf] at p; exact p.elim
    | ok x h1 =>
      rw [hf] at p
      intro m1 H1 u g1 s1 r1
      simp only [R.bind] at p
      cases hx : itemsL h1 x with
      | none => rw [hx] at p; exact p.elim
      | some xs =>
        rw [hx] at p
        simp only [R.bind] at p
        cases ht : tupsOf xs with
        | none => rw [ht] at p; exact p.elim
        | some Ls =>
          rw [ht] at p
          dsimp only at p
          by_cases hok : okT Ls = true
          · rw [if_pos hok] at p
            obtain ⟨a, vs, rfl, t, rr⟩ := itemsL_rd s1 r1 hx
            obtain ⟨ks, e1, e2, e3⟩ := tups_rel rr ht
            rw [e1] at t
            exact ⟨a, ks, rfl, t, fun r hr => vr_sqt (e3 r hr), okT_len e2 hok, fun q L hq hs ha => sortT_post g1 s1 e2 e3 hok hq hs ha fun l H2 L' g s n1 n2 e r => p m1 H2 _ g s ⟨l, _, rfl, n1, n2, e, r⟩⟩
          · rw [if_neg hok] at p; exact p.elim
end
end MM
namespace MM
open PySem L2 PySem.Spec PyProof.Rows
/-! for i, c in enumerate(text) -/
/-- a text's signs with their numbers, each in a new pair -/
def ItS (x : Str) : It :=
  ⟨fun i _ => i < x.cps.size, fun i H v H' => ∃ T c ob, v = .ref T ∧ H T = none ∧ ob.dict = none ∧ H' = upd H T (.frz ob (.tup [.int (i : Nat), .str ⟨#[c]⟩])) ∧ x.cps[i]? = some c, fun i _ => x.cps.size ≤ i⟩
theorem turn_enumS {P : Program} {w : World} {K : PySem.W.Frag} {elts : List Expr} {kk : Nat} {tpos : Pos} (x : Str) (t : Tok) (e it : Addr) (hei : e ≠ it) :
    Turn P w K (.Tuple elts kk tpos) (ItS x) [e, it] e (fun i h => (∃ old, IsEnum h e it ((i : Nat) : Int) old) ∧ h.IsStrIter it (strIterType x) x t i) where
  mem := by simp
  obj := fun i h st b hb => by
    obtain ⟨⟨old, he⟩, ⟨o, ho, hc, hd⟩⟩ := st
    have e' : b = e ∨ b = it := by simpa using hb
    rcases e' with z | z
    · rw [z]; exact ⟨_, he, fun v q => nomatch q⟩
    · rw [z]; exact ⟨o, ho, fun v q => by rw [hd] at q; cases q⟩
  keep := fun i h h' st k => let ⟨⟨old, he⟩, ⟨o, ho, r⟩⟩ := st; ⟨⟨old, k e (by simp) _ he⟩, ⟨o, k it (by simp) o ho, r⟩⟩
  item := by
    intro X hP hw hK hc i pins s σ H E I hf st hg
    subst hP hw hK
    obtain ⟨⟨old, he⟩, hit⟩ := st
    have hlt : i < x.cps.size := hg
    have hel : e < s.heap.objs.size := Heap.lt_size he
    have hil : it < s.heap.objs.size := by obtain ⟨_, q, _⟩ := hit; exact Heap.lt_size q
    have hh : X.A.in1.handled = none := I.ok.hd hc
    refine wpAny_pyNext_enum_itemD (Draws.text hh it x t) he hit hlt hei (by simp [hei]) fun x' h' tk hx' ho st' hT hsz hk => ?_
    obtain ⟨c, u, hcx, rfl⟩ := hx'
    refine ⟨_, rfl, wpAny_letOwnedTupleGo_enum (s := { s with heap := h', toks := tk + 1 }) ho fun h'' he' sb => ?_⟩
    have hT2 : h''.get? s.heap.objs.size = some { cls := .type "tuple", data := .seq #[.int i tk, .str ⟨#[c]⟩ u] } := (sb.2 _ (Nat.ne_of_gt hel)).trans hT
    have new : ObjOk X.prog X.w (upd H s.heap.objs.size (.frz { cls := .type "tuple", data := .seq #[.int i tk, .str ⟨#[c]⟩ u] } (.tup [.int (i : Nat), .str ⟨#[c]⟩]))) h'' s.heap.objs.size (.frz { cls := .type "tuple", data := .seq #[.int i tk, .str ⟨#[c]⟩ u] } (.tup [.int (i : Nat), .str ⟨#[c]⟩])) :=
      ⟨hT2, by show 2 ≤ sizeLine; decide, [.int i tk, .str ⟨#[c]⟩ u], .cons ⟨_, rfl⟩ (.cons ⟨u, rfl⟩ .nil), ⟨_, hT2, rfl, _, rfl⟩⟩
    have I1 : Inv X pins σ (upd H s.heap.objs.size (.frz { cls := .type "tuple", data := .seq #[.int i tk, .str ⟨#[c]⟩ u] } (.tup [.int (i : Nat), .str ⟨#[c]⟩]))) { s with heap := h'', toks := tk + 1 } :=
      I.turnedNew (ch := [e, it]) (fun b o hb q => (sb.2 b (fun z => hb (by simp [z]))).trans (hk b o (fun z => hb (by simp [z])) (fun z => hb (by simp [z])) q)) hf (Nat.le_refl _) new
    refine ⟨.ref s.heap.objs.size, _, I1, rfl, ⟨_, c, _, rfl, I.hok.fresh (Nat.le_refl _), rfl, rfl, hcx⟩, ⟨⟨.str ⟨#[c]⟩ u, ?_⟩, ?_⟩, fun b hb => ?_⟩
    · have e1 : ((i + 1 : Nat) : Int) = (i : Int) + 1 := by omega
      rw [e1]; exact he'
    · obtain ⟨o, ho2, r⟩ := st'
      exact ⟨o, (sb.2 it (Ne.symm hei)).trans ho2, r⟩
    · have hb' : b < s.heap.objs.size := by
        have e' : b = e ∨ b = it := by simpa using hb
        rcases e' with z | z
        · rw [z]; exact hel
        · rw [z]; exact hil
      rw [upd_ne (Nat.ne_of_lt hb')]
      exact (hf b hb).1
  done := by
    intro X hP hw hK hc i pins s σ H E I hf st hg
    subst hP hw hK
    obtain ⟨⟨old, he⟩, hit⟩ := st
    obtain ⟨f0, f1, f2, f3, f4, f5⟩ := hf it (by simp)
    have hh : X.A.in1.handled = none := I.ok.hd hc
    have hend : x.cps[i]? = none := Array.getElem?_eq_none hg
    have hT : s.TypeIs (.ref e) "enumerate" := ⟨_, he, rfl⟩
    have ende : ∀ {Q E' : Value → Shared → Prop}, (∀ h' e, Heap.ExtBut it s.heap h' → (∃ o, h'.get? e = some o ∧ o.cls = .type "StopIteration") → E' (.ref e) { s with heap := h' }) → wpAny (model X.prog X.w) X.A.in1 (Builtin.SmallTypes.nextOf (.ref it)) Q E' s := by
      intro Q E' hE
      cases ha : x.cps.all (· < 128)
      · exact wpAny_nextOf_wide_end hh (by simpa [strIterType, ha] using hit) hend hE
      · exact wpAny_nextOf_ascii_end hh (by simpa [strIterType, ha] using hit) hend hE
    unfold pyNext
    refine wpAny_bind (wpAny_attempt (wpAny_callSpecial?_slot (name := Str.ofString "__next__") hT F.slot_enumerate_next
      (wpAny_call_entry F.slot_enumerate_next hT F.entry_enumerate_next ?_ (F.args_enumerate_next_1 _))))
    show wpAny _ _ (field (.ref e) 2 >>= _) _ _ _
    refine wpAny_bind (wpAny_field he rfl (x := .ref it) rfl ?_)
    refine wpAny_bind (ende fun h' x he' hx' => ?_)
    obtain ⟨o, ho, hc⟩ := hx'
    refine wpAny_bind (wpAny_isInstance (T := "StopIteration") (b := true) ⟨o, ho, hc⟩ isSubtype_stop ?_)
    exact wpAny_pure ⟨rfl, I.turned (t' := s.toks) (fun b o hb q => he' b o hb q) f0 f1 f3 f4 f5⟩
  self := fun A i s Q E st h => let ⟨⟨_, he⟩, _⟩ := st; wpAny_pyIter_enum he h
def iEnumSA (ta : TA) : TI := fun σ H R => ta σ H fun vs H1 => ∃ x, vs = [.str x] ∧ R (ItS x) H1
theorem pi_enumS {X : Cx} {e : Expr} {ta : TA} {p pos tpos : Pos} {elts : List Expr} {kk : Nat} (hg : Gl X "enumerate") (hm : X.mg "enumerate" = none) (ha : PA X [e] ta) (hs : starEach [e] X.env = [(false, eval e X.env)]) :
    PI X (.Tuple elts kk tpos) (.Call (.Name "enumerate" p) [e] [] pos) (iEnumSA ta) := by
  refine ⟨fun pins s σ H R I h => ?_⟩
  refine PyProof.Rows.Call_ (ld_blt (u := .type "enumerate") I hg hm (by decide +kernel) (PyProof.Rows.callWith_type1 (thn (ha.run pos pins s σ H _ I h) fun us s1 ⟨vs, H1, I1, r1, q1⟩ => ?_) hs rfl))
  obtain ⟨x, ex, q⟩ := q1
  subst ex
  cases r1 with
  | cons r rr =>
    cases rr
    obtain ⟨t, rfl⟩ := r
    refine call_enumerate_str fun h' he hit hsz hk => wpAny_pyIter_enum he ?_
    have I2 : Inv X pins σ H1 { s1 with heap := h' } := I1.kept (t' := s1.toks) hk
    refine ⟨s1.heap.objs.size + 1, [s1.heap.objs.size + 1, s1.heap.objs.size], _, _, H1, rfl, I2, turn_enumS x t (s1.heap.objs.size + 1) s1.heap.objs.size (Nat.succ_ne_self _), ⟨⟨.none, he⟩, hit⟩, fun b hb => ?_, q⟩
    have e' : b = s1.heap.objs.size + 1 ∨ b = s1.heap.objs.size := by simpa using hb
    have hle : s1.heap.objs.size ≤ b := by
      rcases e' with z | z
      · rw [z]; exact Nat.le_add_right _ _
      · rw [z]; exact Nat.le_refl _
    exact I1.fpOk hle (I1.hok.fresh hle)
def iEnumStr (f : EM) : ItM := fun e h => (f e h).bind fun x h1 => match x with
  | .str z => .ok (enumFrom 0 (sgns z), fun _ => true) h1
  | _ => .bad
theorem sgns_len (z : Str) : (sgns z).length = z.cps.size := by unfold sgns; rw [List.length_map, Array.length_toList]
theorem mi_enumStr {X : Cx} {C : Cc} {W : WX} {e : Expr} {f : EM} {p pos tpos : Pos} {elts : List Expr} {kk : Nat} (hg : Gl X "enumerate") (hm : X.mg "enumerate" = none) (he : PE X e (tE C X.K W f)) (hs : starEach [e] X.env = [(false, eval e X.env)]) :
    PI X (.Tuple elts kk tpos) (.Call (.Name "enumerate" p) [e] [] pos) (tIt C X.K W (iEnumStr f)) :=
  ⟨fun pins s σ H R I ⟨m, env, h, er, sr, q⟩ => (pi_enumS (elts := elts) (kk := kk) (tpos := tpos) hg hm (m_aCons he m_aNil hs) hs).run pins s σ H R I (by
    refine ⟨m, env, h, er, sr, ?_⟩
    unfold aCons aNil
    have q2 : Post C X.K W σ m H (rI X.K) R ((f env h).bind fun x h1 => match x with
      | .str z => .ok (enumFrom 0 (sgns z), fun _ => true) h1
      | _ => .bad) := q
    cases hf : f env h with
    | bad => rw [hf] at q2; exact q2
    | exc z h1 => rw [hf] at q2; exact q2
    | ok x h1 =>
      rw [hf] at q2
      intro m1 H1 us g1 s1 r1
      have q3 := Post.mono g1 q2
      change VRs X.K m1 H1 [x] us at r1
      simp only [VRs] at r1
      obtain ⟨v1, r, rfl, rv, rfl⟩ := r1
      cases x <;> first | exact q2.elim | skip
      rename_i z
      simp only [VR] at rv
      subst rv
      refine ⟨z, rfl, Post.here q3 s1 ?_⟩
      refine ⟨fun _ => True, fun i H2 x H3 => ∃ T c ob, x = .ref T ∧ H2 T = none ∧ ob.dict = none ∧ H3 = upd H2 T (.frz ob (.tup [.int (i : Nat), .str ⟨#[c]⟩])) ∧ z.cps[i]? = some c, ?_, fun m2 H2 h2 g2 s2 _ => ⟨trivial, fun i x H3 hi ⟨T, c, ob, e1, e2, ed, e3, e4⟩ => ?_⟩⟩
      · dsimp only
        rw [enumFrom_len, sgns_len]
        exact ⟨fun i H hi h => hi, fun H h => Nat.le_refl _, fun i H x H' hi h y => y⟩
      · subst e1; subst e3
        have gi : (sgns z)[i]? = some (.str ⟨#[c]⟩) := by unfold sgns; rw [List.getElem?_map, Array.getElem?_toList, e4]; rfl
        refine ⟨_, enumFrom_at (sgns z) 0 i _ gi, Go.laid e2, s2.laid e2, VR.newTup e2 ed ?_⟩
        simp only [VRs, VR]
        exact ⟨.int ((0 + i : Nat) : Int), [.str ⟨#[c]⟩], by simp, rfl, .str ⟨#[c]⟩, [], rfl, rfl, rfl⟩)⟩
end MM
/-! R1: what the combinators compute: a calculus for simp -/
namespace MM
open PySem L2
/-- it answers and P holds, or it raises and X holds -/
structure wr {α : Type} (r : R α) (P : α → IH → Prop) (X : XC → IH → Prop) : Prop where
  ex : (∃ a h, r = .ok a h ∧ P a h) ∨ (∃ x h, r = .exc x h ∧ X x h)
structure Ks where
  nx : IEnv → IH → Prop
  rt : IV → IH → Prop
  bk : IEnv → IH → Prop
  ct : IEnv → IH → Prop
  ex : XC → IEnv → IH → Prop
def Ks.post (K : Ks) : RS → Prop
  | .nx e h => K.nx e h
  | .rt v h => K.rt v h
  | .bk e h => K.bk e h
  | .ct e h => K.ct e h
  | .exc x e h => K.ex x e h
  | .bad => False
structure wp (r : RS) (K : Ks) : Prop where
  po : K.post r
section
variable {α β : Type} {P : α → IH → Prop} {Q : β → IH → Prop} {X : XC → IH → Prop} {K : Ks} {e : IEnv} {h : IH}
theorem wr_ok {a : α} : wr (.ok a h) P X ↔ P a h := by
  refine ⟨fun ⟨q⟩ => ?_, fun p => ⟨.inl ⟨_, _, rfl, p⟩⟩⟩
  rcases q with ⟨_, _, e, p⟩ | ⟨_, _, e, _⟩
  · cases e; exact p
  · cases e
theorem wr_exc {x : XC} : wr (.exc x h : R α) P X ↔ X x h := by
  refine ⟨fun ⟨q⟩ => ?_, fun p => ⟨.inr ⟨_, _, rfl, p⟩⟩⟩
  rcases q with ⟨_, _, e, p⟩ | ⟨_, _, e, p⟩
  · cases e
  · cases e; exact p
theorem wr_bad : wr (.bad : R α) P X ↔ False := by
  refine ⟨fun ⟨q⟩ => ?_, False.elim⟩
  rcases q with ⟨_, _, e, p⟩ | ⟨_, _, e, p⟩
  · cases e
  · cases e
theorem wr_bind {r : R α} {f : α → IH → R β} : wr (r.bind f) Q X ↔ wr r (fun a h => wr (f a h) Q X) X := by
  cases r with
  | ok a h => rw [wr_ok]; rfl
  | exc x h => rw [wr_exc]; exact wr_exc
  | bad => rw [wr_bad]; exact wr_bad
theorem wr_ite {c : Prop} [Decidable c] {r s : R α} : wr (if c then r else s) P X ↔ (c → wr r P X) ∧ (¬ c → wr s P X) := by
  by_cases hc : c
  · rw [if_pos hc]; exact ⟨fun q => ⟨fun _ => q, fun n => absurd hc n⟩, fun q => q.1 hc⟩
  · rw [if_neg hc]; exact ⟨fun q => ⟨fun n => absurd n hc, fun _ => q⟩, fun q => q.2 hc⟩
theorem wr_guard {c : Prop} [Decidable c] {r : R α} : wr (if c then r else .bad) P X ↔ c ∧ wr r P X := by
  by_cases hc : c
  · rw [if_pos hc]; exact ⟨fun q => ⟨hc, q⟩, fun q => q.2⟩
  · rw [if_neg hc, wr_bad]; exact ⟨False.elim, fun q => absurd q.1 hc⟩
theorem wr.mono {r : R α} {P' : α → IH → Prop} {X' : XC → IH → Prop} (q : wr r P X) (h1 : ∀ a h, P a h → P' a h) (h2 : ∀ x h, X x h → X' x h) : wr r P' X' :=
  ⟨q.ex.imp (fun ⟨a, h, e, p⟩ => ⟨a, h, e, h1 _ _ p⟩) fun ⟨x, h, e, p⟩ => ⟨x, h, e, h2 _ _ p⟩⟩
theorem wr_of {r : R α} {a : α} {h : IH} (e : r = .ok a h) (p : P a h) : wr r P X := ⟨.inl ⟨_, _, e, p⟩⟩
theorem wr_eq {r : R α} {a : α} {h : IH} (q : wr r (fun v h' => v = a ∧ h' = h) fun _ _ => False) : r = .ok a h := by
  rcases q.ex with ⟨_, _, e, rfl, rfl⟩ | ⟨_, _, _, f⟩
  · exact e
  · exact f.elim

theorem wp_nx : wp (.nx e h) K ↔ K.nx e h := ⟨fun q => q.po, fun q => ⟨q⟩⟩
theorem wp_rt {v : IV} : wp (.rt v h) K ↔ K.rt v h := ⟨fun q => q.po, fun q => ⟨q⟩⟩
theorem wp_bk : wp (.bk e h) K ↔ K.bk e h := ⟨fun q => q.po, fun q => ⟨q⟩⟩
theorem wp_ct : wp (.ct e h) K ↔ K.ct e h := ⟨fun q => q.po, fun q => ⟨q⟩⟩
theorem wp_ex {x : XC} : wp (.exc x e h) K ↔ K.ex x e h := ⟨fun q => q.po, fun q => ⟨q⟩⟩
theorem wp_bad : wp .bad K ↔ False := ⟨fun q => q.po, False.elim⟩
theorem wp.mono {r : RS} {K' : Ks} (q : wp r K) (h1 : ∀ e h, K.nx e h → K'.nx e h) (h2 : ∀ v h, K.rt v h → K'.rt v h) (h3 : ∀ e h, K.bk e h → K'.bk e h) (h4 : ∀ e h, K.ct e h → K'.ct e h) (h5 : ∀ x e h, K.ex x e h → K'.ex x e h) : wp r K' := by
  cases r with
  | nx e h => exact ⟨h1 _ _ q.po⟩
  | rt e h => exact ⟨h2 _ _ q.po⟩
  | bk e h => exact ⟨h3 _ _ q.po⟩
  | ct e h => exact ⟨h4 _ _ q.po⟩
  | exc x e h => exact ⟨h5 _ _ _ q.po⟩
  | bad => exact q.po.elim
theorem wp_of {r : R α} {k : α → IH → RS} : wp (RS.of e r k) K ↔ wr r (fun a h => wp (k a h) K) (fun x h => K.ex x e h) := by
  cases r with
  | ok a h => rw [wr_ok]; rfl
  | exc x h => rw [wr_exc]; exact wp_ex
  | bad => rw [wr_bad]; exact wp_bad
theorem wp_ite {c : Prop} [Decidable c] {r s : RS} : wp (if c then r else s) K ↔ (c → wp r K) ∧ (¬ c → wp s K) := by
  by_cases hc : c
  · rw [if_pos hc]; exact ⟨fun q => ⟨fun _ => q, fun n => absurd hc n⟩, fun q => q.1 hc⟩
  · rw [if_neg hc]; exact ⟨fun q => ⟨fun n => absurd n hc, fun _ => q⟩, fun q => q.2 hc⟩
theorem wp_seq {f g : SM} : wp (sSeq f g e h) K ↔ wp (f e h) { K with nx := fun e1 h1 => wp (g e1 h1) K } := by
  unfold sSeq
  cases f e h <;> exact ⟨fun q => ⟨by first | exact q | exact q.po⟩, fun q => by first | exact q.po | exact ⟨q.po⟩⟩
theorem wp_nil : wp (sNil e h) K ↔ K.nx e h := wp_nx
theorem wp_asg {f : EM} {g : GM} : wp (sAsg f g e h) K ↔ wr (f e h) (fun v h1 => ∃ e2 h2, g v e h1 = some (e2, h2) ∧ K.nx e2 h2) (fun x h => K.ex x e h) := by
  unfold sAsg
  rw [wp_of]
  refine ⟨fun q => q.mono (fun v h1 w => ?_) fun _ _ w => w, fun q => q.mono (fun v h1 w => ?_) fun _ _ w => w⟩
  · cases hg : g v e h1 with
    | none => rw [hg] at w; exact w.po.elim
    | some p => rw [hg] at w; exact ⟨p.1, p.2, rfl, w.po⟩
  · obtain ⟨e2, h2, e3, n⟩ := w
    rw [e3]; exact ⟨n⟩
theorem wp_asgN {f : EM} {i : Nat} : wp (sAsg f (gNm i) e h) K ↔ wr (f e h) (fun v h1 => K.nx (e.set i (some v)) h1) (fun x h => K.ex x e h) := by
  rw [wp_asg]
  refine ⟨fun q => q.mono (fun v h1 ⟨_, _, e, n⟩ => ?_) fun _ _ w => w, fun q => q.mono (fun v h1 n => ⟨_, _, rfl, n⟩) fun _ _ w => w⟩
  cases e; exact n
theorem wp_ret {f : EM} : wp (sRet f e h) K ↔ wr (f e h) K.rt (fun x h => K.ex x e h) := by
  unfold sRet
  rw [wp_of]
  exact ⟨fun q => q.mono (fun _ _ w => w.po) fun _ _ w => w, fun q => q.mono (fun _ _ w => ⟨w⟩) fun _ _ w => w⟩
theorem wp_retN : wp (sRetN e h) K ↔ K.rt .non h := wp_rt
theorem wp_brk : wp (sBrk e h) K ↔ K.bk e h := wp_bk
theorem wp_cont : wp (sCont e h) K ↔ K.ct e h := wp_ct
theorem wp_expr {f : EM} : wp (sExpr f e h) K ↔ wr (f e h) (fun _ h1 => K.nx e h1) (fun x h => K.ex x e h) := by
  unfold sExpr
  rw [wp_of]
  exact ⟨fun q => q.mono (fun _ _ w => w.po) fun _ _ w => w, fun q => q.mono (fun _ _ w => ⟨w⟩) fun _ _ w => w⟩
theorem wp_if {c : IEnv → IH → R Bool} {f g : SM} : wp (sIf c f g e h) K ↔ wr (c e h) (fun b h1 => (b = true → wp (f e h1) K) ∧ (b = false → wp (g e h1) K)) (fun x h => K.ex x e h) := by
  unfold sIf
  rw [wp_of]
  have hb : ∀ (b : Bool) (h1 : IH), wp (if b = true then f e h1 else g e h1) K ↔ (b = true → wp (f e h1) K) ∧ (b = false → wp (g e h1) K) := fun b h1 => by
    cases b
    · exact ⟨fun q => ⟨fun z => (Bool.noConfusion z), fun _ => q⟩, fun q => q.2 rfl⟩
    · exact ⟨fun q => ⟨fun _ => q, fun z => (Bool.noConfusion z)⟩, fun q => q.1 rfl⟩
  exact ⟨fun q => q.mono (fun b h1 w => (hb b h1).mp w) fun _ _ w => w, fun q => q.mono (fun b h1 w => (hb b h1).mpr w) fun _ _ w => w⟩
theorem wp_par {is : List Nat} {f : IEnv → IH → R (List IV)} : wp (sPar is f e h) K ↔ wr (f e h) (fun vs h1 => vs.length = is.length ∧ K.nx ((is.zip vs).foldl (fun e p => e.set p.1 (some p.2)) e) h1) (fun x h => K.ex x e h) := by
  unfold sPar
  rw [wp_of]
  refine ⟨fun q => q.mono (fun vs h1 w => ?_) fun _ _ w => w, fun q => q.mono (fun vs h1 w => ?_) fun _ _ w => w⟩
  · by_cases hl : vs.length = is.length
    · rw [if_pos hl] at w; exact ⟨hl, w.po⟩
    · rw [if_neg hl] at w; exact w.po.elim
  · rw [if_pos w.1]; exact ⟨w.2⟩
theorem wp_aug {i : Nat} {o : IV → IV → IH → R IV} {f : EM} : wp (sAug i o f e h) K ↔ wr (eVar i e h) (fun x _ => wr (f e h) (fun y h1 => wr (o x y h1) (fun z h2 => K.nx (e.set i (some z)) h2) (fun x h => K.ex x e h)) (fun x h => K.ex x e h)) (fun x h => K.ex x e h) := by
  unfold sAug eVar
  have e1 : ∀ x y h1, wp (RS.of e (o x y h1) fun z h2 => RS.nx (e.set i (some z)) h2) K ↔ _ := fun x y h1 => wp_of
  rcases hx : e[i]? with _ | _ | x
  · exact ⟨fun q => (wp_bad.mp q).elim, fun q => (wr_bad.mp q).elim⟩
  · exact ⟨fun q => (wp_bad.mp q).elim, fun q => (wr_bad.mp q).elim⟩
  · dsimp only
    rw [wr_ok, wp_of]
    exact ⟨fun q => q.mono (fun y h1 w => ((e1 x y h1).mp w).mono (fun _ _ w => w.po) fun _ _ w => w) fun _ _ w => w, fun q => q.mono (fun y h1 w => (e1 x y h1).mpr (w.mono (fun _ _ w => ⟨w⟩) fun _ _ w => w)) fun _ _ w => w⟩
theorem wp_raise {c : Nat} : wp (sRaise c e h) K ↔ K.ex ⟨c, none⟩ e h := wp_ex
theorem wp_try {tb : XT} {b : SM} {hs : List (Nat × SM)} (q : wp (b e h) { K with ex := fun x e1 h1 => wp (hdl tb x e1 h1 hs) K }) : wp (sTry tb b hs e h) K := by
  unfold sTry
  cases hb : b e h <;> rw [hb] at q <;> first | exact ⟨q.po⟩ | exact q.po
theorem wp_gc {f : SM} (q : wp (f e h) { K with nx := fun e1 h1 => (h1.take h.length).all (belowO h.length) = true ∧ K.nx (frzE h1 h.length e1) (h1.take h.length), bk := fun e1 h1 => (h1.take h.length).all (belowO h.length) = true ∧ K.bk (frzE h1 h.length e1) (h1.take h.length), ct := fun e1 h1 => (h1.take h.length).all (belowO h.length) = true ∧ K.ct (frzE h1 h.length e1) (h1.take h.length) }) : wp (sGc f e h) K := by
  unfold sGc
  cases hb : f e h with
  | nx e1 h1 => rw [hb] at q; unfold gcS; dsimp only; rw [if_pos q.po.1]; exact ⟨q.po.2⟩
  | bk e1 h1 => rw [hb] at q; unfold gcS; dsimp only; rw [if_pos q.po.1]; exact ⟨q.po.2⟩
  | ct e1 h1 => rw [hb] at q; unfold gcS; dsimp only; rw [if_pos q.po.1]; exact ⟨q.po.2⟩
  | rt v h1 => rw [hb] at q; exact ⟨q.po⟩
  | exc x e1 h1 => rw [hb] at q; exact ⟨q.po⟩
  | bad => rw [hb] at q; exact q.po.elim

/-! ### expressions -/
theorem wr_var {i : Nat} {P : IV → IH → Prop} : wr (eVar i e h) P X ↔ ∃ v, e[i]? = some (some v) ∧ P v h := by
  unfold eVar
  split
  · rename_i v hv
    rw [wr_ok]
    exact ⟨fun p => ⟨v, hv, p⟩, fun ⟨u, hu, p⟩ => by rw [hv] at hu; cases hu; exact p⟩
  · rename_i hv
    rw [wr_bad]
    exact ⟨False.elim, fun ⟨u, hu, p⟩ => hv u hu⟩
theorem wr_k {v : IV} {P : IV → IH → Prop} : wr (eK v e h) P X ↔ P v h := wr_ok
theorem wr_e1 {o : IV → IH → R IV} {f : EM} {P : IV → IH → Prop} : wr (e1 o f e h) P X ↔ wr (f e h) (fun x h1 => wr (o x h1) P X) X := wr_bind
theorem wr_e2 {o : IV → IV → IH → R IV} {f g : EM} {P : IV → IH → Prop} : wr (e2 o f g e h) P X ↔ wr (f e h) (fun x h1 => wr (g e h1) (fun y h2 => wr (o x y h2) P X) X) X := by
  unfold e2
  rw [wr_bind]
  exact ⟨fun q => q.mono (fun _ _ w => wr_bind.mp w) fun _ _ w => w, fun q => q.mono (fun _ _ w => wr_bind.mpr w) fun _ _ w => w⟩
theorem wr_aNil {P : List IV → IH → Prop} : wr (aNil e h) P X ↔ P [] h := wr_ok
theorem wr_aCons {f : EM} {g : IEnv → IH → R (List IV)} {P : List IV → IH → Prop} : wr (aCons f g e h) P X ↔ wr (f e h) (fun x h1 => wr (g e h1) (fun xs h2 => P (x :: xs) h2) X) X := by
  unfold aCons
  rw [wr_bind]
  have z : ∀ x h1, wr ((g e h1).bind fun xs h2 => R.ok (x :: xs) h2) P X ↔ wr (g e h1) (fun xs h2 => P (x :: xs) h2) X := fun x h1 => by
    rw [wr_bind]
    exact ⟨fun q => q.mono (fun _ _ w => wr_ok.mp w) fun _ _ w => w, fun q => q.mono (fun _ _ w => wr_ok.mpr w) fun _ _ w => w⟩
  exact ⟨fun q => q.mono (fun _ _ w => (z _ _).mp w) fun _ _ w => w, fun q => q.mono (fun _ _ w => (z _ _).mpr w) fun _ _ w => w⟩
theorem wr_c {F : FM} {f : IEnv → IH → R (List IV)} {P : IV → IH → Prop} : wr (eC F f e h) P X ↔ wr (f e h) (fun vs h1 => wr (F vs h1) P X) X := wr_bind
theorem wr_ck {F : FM} {ix : List Nat} {f g : IEnv → IH → R (List IV)} {P : IV → IH → Prop} : wr (eCK F ix f g e h) P X ↔ wr (f e h) (fun xs h1 => wr (g e h1) (fun ys h2 => wr (F (pick ix (xs ++ ys)) h2) P X) X) X := by
  unfold eCK
  rw [wr_bind]
  exact ⟨fun q => q.mono (fun _ _ w => wr_bind.mp w) fun _ _ w => w, fun q => q.mono (fun _ _ w => wr_bind.mpr w) fun _ _ w => w⟩
theorem wr_tup {f : IEnv → IH → R (List IV)} {P : IV → IH → Prop} : wr (eTup f e h) P X ↔ wr (f e h) (fun xs h1 => xs.length ≤ sizeLine ∧ P (.tup xs) h1) X := by
  unfold eTup
  rw [wr_bind]
  have z : ∀ (xs : List IV) (h1 : IH), wr (if xs.length ≤ sizeLine then R.ok (IV.tup xs) h1 else .bad) P X ↔ xs.length ≤ sizeLine ∧ P (.tup xs) h1 := fun xs h1 => by rw [wr_guard, wr_ok]
  exact ⟨fun q => q.mono (fun _ _ w => (z _ _).mp w) fun _ _ w => w, fun q => q.mono (fun _ _ w => (z _ _).mpr w) fun _ _ w => w⟩
theorem wr_lst {f : IEnv → IH → R (List IV)} {P : List IV → IH → Prop} : wr (lLst f e h) P X ↔ wr (f e h) (fun xs h1 => xs.length ≤ sizeLine ∧ P xs h1) X := by
  unfold lLst
  rw [wr_bind]
  have z : ∀ (xs : List IV) (h1 : IH), wr (if xs.length ≤ sizeLine then R.ok xs h1 else .bad) P X ↔ xs.length ≤ sizeLine ∧ P xs h1 := fun xs h1 => by rw [wr_guard, wr_ok]
  exact ⟨fun q => q.mono (fun _ _ w => (z _ _).mp w) fun _ _ w => w, fun q => q.mono (fun _ _ w => (z _ _).mpr w) fun _ _ w => w⟩
theorem wr_map {γ : Type} {r : R α} {f : α → γ} {P : γ → IH → Prop} : wr (r.bind fun a h1 => .ok (f a) h1) P X ↔ wr r (fun a h1 => P (f a) h1) X := by
  rw [wr_bind]
  exact ⟨fun q => q.mono (fun _ _ w => wr_ok.mp w) fun _ _ w => w, fun q => q.mono (fun _ _ w => wr_ok.mpr w) fun _ _ w => w⟩
theorem wr_fz {f : IEnv → IH → R (List IV)} {P : IV → IH → Prop} : wr (eFz f e h) P X ↔ wr (f e h) (fun xs h1 => P (.fz xs) h1) X := wr_map
theorem wr_new {f : IEnv → IH → R (List IV)} {P : IV → IH → Prop} : wr (eNew f e h) P X ↔ wr (f e h) (fun xs h1 => P (.ref h1.length) (h1 ++ [.lst xs])) X := by
  unfold eNew
  rw [wr_bind]
  exact ⟨fun q => q.mono (fun _ _ w => wr_ok.mp w) fun _ _ w => w, fun q => q.mono (fun _ _ w => wr_ok.mpr w) fun _ _ w => w⟩
theorem wr_tuple {f : IEnv → IH → R (List IV)} {P : IV → IH → Prop} : wr (eTuple f e h) P X ↔ wr (f e h) (fun xs h1 => P (.tup xs) h1) X := wr_map
theorem wr_len {f : IEnv → IH → R (List IV)} {P : IV → IH → Prop} : wr (eLen f e h) P X ↔ wr (f e h) (fun xs h1 => P (.int xs.length) h1) X := wr_map
theorem wr_lId {f : IEnv → IH → R (List IV)} {P : List IV → IH → Prop} : wr (lId f e h) P X ↔ wr (f e h) P X := wr_map
theorem wr_qV {f : EM} {P : List IV → IH → Prop} : wr (qV f e h) P X ↔ wr (f e h) (fun x h1 => ∃ xs, items h1 x = some xs ∧ P xs h1) X := by
  unfold qV
  rw [wr_bind]
  have z : ∀ (x : IV) (h1 : IH), wr (match items h1 x with | some xs => R.ok xs h1 | none => .bad) P X ↔ ∃ xs, items h1 x = some xs ∧ P xs h1 := fun x h1 => by
    cases items h1 x with
    | none => exact ⟨fun q => (wr_bad.mp q).elim, fun ⟨_, q, _⟩ => by cases q⟩
    | some xs => exact ⟨fun q => ⟨xs, rfl, wr_ok.mp q⟩, fun ⟨_, q, p⟩ => by cases q; exact wr_ok.mpr p⟩
  exact ⟨fun q => q.mono (fun _ _ w => (z _ _).mp w) fun _ _ w => w, fun q => q.mono (fun _ _ w => (z _ _).mpr w) fun _ _ w => w⟩
theorem wr_qLV {f : EM} {P : List IV → IH → Prop} : wr (qLV f e h) P X ↔ wr (f e h) (fun x h1 => ∃ xs, itemsL h1 x = some xs ∧ P xs h1) X := by
  unfold qLV
  rw [wr_bind]
  have z : ∀ (x : IV) (h1 : IH), wr (match itemsL h1 x with | some xs => R.ok xs h1 | none => .bad) P X ↔ ∃ xs, itemsL h1 x = some xs ∧ P xs h1 := fun x h1 => by
    cases itemsL h1 x with
    | none => exact ⟨fun q => (wr_bad.mp q).elim, fun ⟨_, q, _⟩ => by cases q⟩
    | some xs => exact ⟨fun q => ⟨xs, rfl, wr_ok.mp q⟩, fun ⟨_, q, p⟩ => by cases q; exact wr_ok.mpr p⟩
  exact ⟨fun q => q.mono (fun _ _ w => (z _ _).mp w) fun _ _ w => w, fun q => q.mono (fun _ _ w => (z _ _).mpr w) fun _ _ w => w⟩
theorem wr_lenV {f : EM} {P : IV → IH → Prop} : wr (eLenV f e h) P X ↔ wr (f e h) (fun x h1 => wr (lenK x h1) P X) X := wr_bind
theorem wr_ix {f g : EM} {P : IV → IH → Prop} : wr (eIx f g e h) P X ↔ wr (f e h) (fun x h1 => wr (g e h1) (fun y h2 => wr (match x with | .str s => bIxS (.str s) y h2 | x => bIx x y h2) P X) X) X := by
  unfold eIx ixK
  rw [wr_bind]
  exact ⟨fun q => q.mono (fun _ _ w => wr_bind.mp w) fun _ _ w => w, fun q => q.mono (fun _ _ w => wr_bind.mpr w) fun _ _ w => w⟩
theorem wr_oN {P : Option Int → IH → Prop} : wr (oN e h) P X ↔ P none h := wr_ok
theorem wr_oS {f : EM} {P : Option Int → IH → Prop} : wr (oS f e h) P X ↔ wr (f e h) (fun x h1 => ∃ i, x = .int i ∧ P (some i) h1) X := by
  unfold oS
  rw [wr_bind]
  have z : ∀ (x : IV) (h1 : IH), wr (match x with | .int i => R.ok (some i) h1 | _ => .bad) P X ↔ ∃ i, x = .int i ∧ P (some i) h1 := fun x h1 => by
    cases x with
    | int i => exact ⟨fun q => ⟨i, rfl, wr_ok.mp q⟩, fun ⟨_, q, p⟩ => by cases q; exact wr_ok.mpr p⟩
    | _ => exact ⟨fun q => (wr_bad.mp q).elim, fun ⟨_, q, _⟩ => by cases q⟩
  exact ⟨fun q => q.mono (fun _ _ w => (z _ _).mp w) fun _ _ w => w, fun q => q.mono (fun _ _ w => (z _ _).mpr w) fun _ _ w => w⟩
theorem wr_cut {f : EM} {l u : IEnv → IH → R (Option Int)} {P : IV → IH → Prop} : wr (eCut f l u e h) P X ↔ wr (f e h) (fun x h1 => wr (l e h1) (fun a h2 => wr (u e h2) (fun b h3 => wr (match x with
      | .str s => if s.length ≤ sizeLine then .ok (.str (cutS s a b)) h3 else .bad
      | .tup xs => .ok (.tup (cut xs a b)) h3
      | x => match items h3 x with
        | some xs => .ok (.fz (cut xs a b)) h3
        | none => .bad) P X) X) X) X := by
  unfold eCut cutK
  rw [wr_bind]
  exact ⟨fun q => q.mono (fun _ _ w => (wr_bind.mp w).mono (fun _ _ w => wr_bind.mp w) fun _ _ w => w) fun _ _ w => w, fun q => q.mono (fun _ _ w => wr_bind.mpr (w.mono (fun _ _ w => wr_bind.mpr w) fun _ _ w => w)) fun _ _ w => w⟩
theorem wr_toB {f : EM} {P : Bool → IH → Prop} : wr (toB f e h) P X ↔ wr (f e h) (fun x h1 => ∃ b, x = .bl b ∧ P b h1) X := by
  unfold toB
  rw [wr_bind]
  have z : ∀ (x : IV) (h1 : IH), wr (match x with | .bl b => R.ok b h1 | _ => .bad) P X ↔ ∃ b, x = .bl b ∧ P b h1 := fun x h1 => by
    cases x with
    | bl i => exact ⟨fun q => ⟨i, rfl, wr_ok.mp q⟩, fun ⟨_, q, p⟩ => by cases q; exact wr_ok.mpr p⟩
    | _ => exact ⟨fun q => (wr_bad.mp q).elim, fun ⟨_, q, _⟩ => by cases q⟩
  exact ⟨fun q => q.mono (fun _ _ w => (z _ _).mp w) fun _ _ w => w, fun q => q.mono (fun _ _ w => (z _ _).mpr w) fun _ _ w => w⟩
theorem bcase {b : Bool} {p q : Prop} : (if b = true then p else q) ↔ (b = true → p) ∧ (b = false → q) := by
  cases b <;> simp
theorem wr_bite {b : Bool} {r s : R α} : wr (if b = true then r else s) P X ↔ (b = true → wr r P X) ∧ (b = false → wr s P X) := by
  cases b <;> simp
theorem wr_and {f g : IEnv → IH → R Bool} {P : Bool → IH → Prop} : wr (tAndM f g e h) P X ↔ wr (f e h) (fun b h1 => (b = true → wr (g e h1) P X) ∧ (b = false → P false h1)) X := by
  unfold tAndM
  rw [wr_bind]
  have z : ∀ (b : Bool) (h1 : IH), wr (if b = true then g e h1 else R.ok false h1) P X ↔ _ := fun b h1 => wr_bite
  exact ⟨fun q => q.mono (fun b h1 w => by have := (z b h1).mp w; exact ⟨this.1, fun z => wr_ok.mp (this.2 z)⟩) fun _ _ w => w, fun q => q.mono (fun b h1 w => (z b h1).mpr ⟨w.1, fun z => wr_ok.mpr (w.2 z)⟩) fun _ _ w => w⟩
theorem wr_or {f g : IEnv → IH → R Bool} {P : Bool → IH → Prop} : wr (tOrM f g e h) P X ↔ wr (f e h) (fun b h1 => (b = true → P true h1) ∧ (b = false → wr (g e h1) P X)) X := by
  unfold tOrM
  rw [wr_bind]
  have z : ∀ (b : Bool) (h1 : IH), wr (if b = true then R.ok true h1 else g e h1) P X ↔ _ := fun b h1 => wr_bite
  exact ⟨fun q => q.mono (fun b h1 w => by have := (z b h1).mp w; exact ⟨fun z => wr_ok.mp (this.1 z), this.2⟩) fun _ _ w => w, fun q => q.mono (fun b h1 w => (z b h1).mpr ⟨fun z => wr_ok.mpr (w.1 z), w.2⟩) fun _ _ w => w⟩
theorem wr_not {f : IEnv → IH → R Bool} {P : Bool → IH → Prop} : wr (tNotM f e h) P X ↔ wr (f e h) (fun b h1 => P (!b) h1) X := wr_map
theorem wr_eAnd {f g : EM} {P : IV → IH → Prop} : wr (eAnd f g e h) P X ↔ wr (f e h) (fun x h1 => ∃ b, x = .bl b ∧ (b = true → wr (g e h1) P X) ∧ (b = false → P (.bl false) h1)) X := by
  unfold eAnd
  rw [wr_bind]
  have z : ∀ (x : IV) (h1 : IH), wr (match x with | .bl b => (if b = true then g e h1 else .ok (.bl false) h1) | _ => .bad) P X ↔ ∃ b, x = .bl b ∧ (b = true → wr (g e h1) P X) ∧ (b = false → P (.bl false) h1) := fun x h1 => by
    cases x with
    | bl i => exact ⟨fun q => ⟨i, rfl, (wr_bite.mp q).1, fun z => wr_ok.mp ((wr_bite.mp q).2 z)⟩, fun ⟨_, q, p⟩ => by cases q; exact wr_bite.mpr ⟨p.1, fun z => wr_ok.mpr (p.2 z)⟩⟩
    | _ => exact ⟨fun q => (wr_bad.mp q).elim, fun ⟨_, q, _⟩ => by cases q⟩
  exact ⟨fun q => q.mono (fun _ _ w => (z _ _).mp w) fun _ _ w => w, fun q => q.mono (fun _ _ w => (z _ _).mpr w) fun _ _ w => w⟩
theorem wr_eOr {f g : EM} {P : IV → IH → Prop} : wr (eOr f g e h) P X ↔ wr (f e h) (fun x h1 => ∃ b, x = .bl b ∧ (b = true → P (.bl true) h1) ∧ (b = false → wr (g e h1) P X)) X := by
  unfold eOr
  rw [wr_bind]
  have z : ∀ (x : IV) (h1 : IH), wr (match x with | .bl b => (if b = true then .ok (.bl true) h1 else g e h1) | _ => .bad) P X ↔ ∃ b, x = .bl b ∧ (b = true → P (.bl true) h1) ∧ (b = false → wr (g e h1) P X) := fun x h1 => by
    cases x with
    | bl i => exact ⟨fun q => ⟨i, rfl, fun z => wr_ok.mp ((wr_bite.mp q).1 z), (wr_bite.mp q).2⟩, fun ⟨_, q, p⟩ => by cases q; exact wr_bite.mpr ⟨fun z => wr_ok.mpr (p.1 z), p.2⟩⟩
    | _ => exact ⟨fun q => (wr_bad.mp q).elim, fun ⟨_, q, _⟩ => by cases q⟩
  exact ⟨fun q => q.mono (fun _ _ w => (z _ _).mp w) fun _ _ w => w, fun q => q.mono (fun _ _ w => (z _ _).mpr w) fun _ _ w => w⟩
theorem wr_eNot {f : EM} {P : IV → IH → Prop} : wr (eNot f e h) P X ↔ wr (f e h) (fun x h1 => ∃ b, x = .bl b ∧ P (.bl !b) h1) X := by
  unfold eNot
  rw [wr_bind]
  have z : ∀ (x : IV) (h1 : IH), wr (match x with | .bl b => R.ok (IV.bl !b) h1 | _ => .bad) P X ↔ ∃ b, x = .bl b ∧ P (.bl !b) h1 := fun x h1 => by
    cases x with
    | bl i => exact ⟨fun q => ⟨i, rfl, wr_ok.mp q⟩, fun ⟨_, q, p⟩ => by cases q; exact wr_ok.mpr p⟩
    | _ => exact ⟨fun q => (wr_bad.mp q).elim, fun ⟨_, q, _⟩ => by cases q⟩
  exact ⟨fun q => q.mono (fun _ _ w => (z _ _).mp w) fun _ _ w => w, fun q => q.mono (fun _ _ w => (z _ _).mpr w) fun _ _ w => w⟩
theorem wr_eIf {c : IEnv → IH → R Bool} {f g : EM} {P : IV → IH → Prop} : wr (eIf c f g e h) P X ↔ wr (c e h) (fun b h1 => (b = true → wr (f e h1) P X) ∧ (b = false → wr (g e h1) P X)) X := by
  unfold eIf
  rw [wr_bind]
  exact ⟨fun q => q.mono (fun _ _ w => wr_bite.mp w) fun _ _ w => w, fun q => q.mono (fun _ _ w => wr_bite.mpr w) fun _ _ w => w⟩
theorem wr_chain {o o' : IV → IV → IH → R IV} {f g k : EM} {P : IV → IH → Prop} : wr (eChain o o' f g k e h) P X ↔ wr (f e h) (fun x h1 => wr (g e h1) (fun y h2 => wr (o x y h2) (fun z h3 => ∃ b, z = .bl b ∧ (b = true → wr (k e h3) (fun w h4 => wr (o' y w h4) P X) X) ∧ (b = false → P (.bl false) h3)) X) X) X := by
  unfold eChain
  rw [wr_bind]
  have z : ∀ (y x : IV) (h1 : IH), wr (match x with | .bl b => (if b = true then (k e h1).bind fun w h4 => o' y w h4 else .ok (.bl false) h1) | _ => .bad) P X ↔ ∃ b, x = .bl b ∧ (b = true → wr (k e h1) (fun w h4 => wr (o' y w h4) P X) X) ∧ (b = false → P (.bl false) h1) := fun y x h1 => by
    cases x with
    | bl i => exact ⟨fun q => ⟨i, rfl, fun z => wr_bind.mp ((wr_bite.mp q).1 z), fun z => wr_ok.mp ((wr_bite.mp q).2 z)⟩, fun ⟨_, q, p⟩ => by cases q; exact wr_bite.mpr ⟨fun z => wr_bind.mpr (p.1 z), fun z => wr_ok.mpr (p.2 z)⟩⟩
    | _ => exact ⟨fun q => (wr_bad.mp q).elim, fun ⟨_, q, _⟩ => by cases q⟩
  refine ⟨fun q => q.mono (fun x h1 w => (wr_bind.mp w).mono (fun y h2 w => (wr_bind.mp w).mono (fun b h3 w => (z y b h3).mp w) fun _ _ w => w) fun _ _ w => w) fun _ _ w => w, fun q => q.mono (fun x h1 w => wr_bind.mpr (w.mono (fun y h2 w => wr_bind.mpr (w.mono (fun b h3 w => (z y b h3).mpr w) fun _ _ w => w)) fun _ _ w => w)) fun _ _ w => w⟩
theorem wr_mth {o : IV → List IV → IH → R IV} {f : EM} {g : IEnv → IH → R (List IV)} {P : IV → IH → Prop} : wr (eMth o f g e h) P X ↔ wr (f e h) (fun x h1 => ∃ k xs, x = .ref k ∧ h1[k]? = some (.lst xs) ∧ wr (g e h1) (fun ys h2 => wr (o x ys h2) P X) X) X := by
  unfold eMth
  rw [wr_bind]
  have z : ∀ (x : IV) (h1 : IH), wr (match x with | .ref k => (match h1[k]? with | some (.lst _) => (g e h1).bind fun ys h2 => o x ys h2 | _ => .bad) | _ => .bad) P X ↔ ∃ k xs, x = .ref k ∧ h1[k]? = some (.lst xs) ∧ wr (g e h1) (fun ys h2 => wr (o x ys h2) P X) X := fun x h1 => by
    cases x with
    | ref k =>
      dsimp only
      split
      · rename_i xs hk
        exact ⟨fun q => ⟨k, xs, rfl, hk, wr_bind.mp q⟩, fun ⟨_, _, q, _, p⟩ => by cases q; exact wr_bind.mpr p⟩
      · rename_i hk
        exact ⟨fun q => (wr_bad.mp q).elim, fun ⟨_, _, q, z, p⟩ => by cases q; exact absurd z (hk _)⟩
    | _ => exact ⟨fun q => (wr_bad.mp q).elim, fun ⟨_, _, q, _⟩ => by cases q⟩
  exact ⟨fun q => q.mono (fun _ _ w => (z _ _).mp w) fun _ _ w => w, fun q => q.mono (fun _ _ w => (z _ _).mpr w) fun _ _ w => w⟩
theorem wr_mth0 {o : IV → List IV → IH → R IV} {f : EM} {P : IV → IH → Prop} : wr (eMth0 o f e h) P X ↔ wr (f e h) (fun x h1 => ∃ k xs, x = .ref k ∧ h1[k]? = some (.lst xs) ∧ wr (o x [] h1) P X) X := by
  unfold eMth0
  rw [wr_bind]
  have z : ∀ (x : IV) (h1 : IH), wr (match x with | .ref k => (match h1[k]? with | some (.lst _) => o x [] h1 | _ => .bad) | _ => .bad) P X ↔ ∃ k xs, x = .ref k ∧ h1[k]? = some (.lst xs) ∧ wr (o x [] h1) P X := fun x h1 => by
    cases x with
    | ref k =>
      dsimp only
      split
      · rename_i xs hk
        exact ⟨fun q => ⟨k, xs, rfl, hk, q⟩, fun ⟨_, _, q, _, p⟩ => by cases q; exact p⟩
      · rename_i hk
        exact ⟨fun q => (wr_bad.mp q).elim, fun ⟨_, _, q, z, p⟩ => by cases q; exact absurd z (hk _)⟩
    | _ => exact ⟨fun q => (wr_bad.mp q).elim, fun ⟨_, _, q, _⟩ => by cases q⟩
  exact ⟨fun q => q.mono (fun _ _ w => (z _ _).mp w) fun _ _ w => w, fun q => q.mono (fun _ _ w => (z _ _).mpr w) fun _ _ w => w⟩
theorem wr_ints {g : List Int → Option Int} {f : IEnv → IH → R (List IV)} {P : IV → IH → Prop} : wr (eInts g f e h) P X ↔ wr (f e h) (fun xs h1 => ∃ ns i, intsOf xs = some ns ∧ g ns = some i ∧ P (.int i) h1) X := by
  unfold eInts
  rw [wr_bind]
  have z : ∀ (xs : List IV) (h1 : IH), wr (match intsOf xs with | some ns => (match g ns with | some i => R.ok (IV.int i) h1 | none => .bad) | none => .bad) P X ↔ ∃ ns i, intsOf xs = some ns ∧ g ns = some i ∧ P (.int i) h1 := fun xs h1 => by
    cases hi : intsOf xs with
    | none => exact ⟨fun q => (wr_bad.mp q).elim, fun ⟨_, _, q, _⟩ => by cases q⟩
    | some ns =>
      dsimp only
      cases hg : g ns with
      | none => exact ⟨fun q => (wr_bad.mp q).elim, fun ⟨_, _, q, z, _⟩ => by cases q; rw [hg] at z; cases z⟩
      | some i => exact ⟨fun q => ⟨ns, i, rfl, hg, wr_ok.mp q⟩, fun ⟨_, _, q, z, p⟩ => by cases q; rw [hg] at z; cases z; exact wr_ok.mpr p⟩
  exact ⟨fun q => q.mono (fun _ _ w => (z _ _).mp w) fun _ _ w => w, fun q => q.mono (fun _ _ w => (z _ _).mpr w) fun _ _ w => w⟩
theorem wr_bls {g : List Bool → Bool} {f : IEnv → IH → R (List IV)} {P : IV → IH → Prop} : wr (eBls g f e h) P X ↔ wr (f e h) (fun xs h1 => ∃ ns, blsOf xs = some ns ∧ P (.bl (g ns)) h1) X := by
  unfold eBls
  rw [wr_bind]
  have z : ∀ (xs : List IV) (h1 : IH), wr (match blsOf xs with | some ns => R.ok (IV.bl (g ns)) h1 | none => .bad) P X ↔ ∃ ns, blsOf xs = some ns ∧ P (.bl (g ns)) h1 := fun xs h1 => by
    cases hi : blsOf xs with
    | none => exact ⟨fun q => (wr_bad.mp q).elim, fun ⟨_, q, _⟩ => by cases q⟩
    | some ns => exact ⟨fun q => ⟨ns, rfl, wr_ok.mp q⟩, fun ⟨_, q, p⟩ => by cases q; exact wr_ok.mpr p⟩
  exact ⟨fun q => q.mono (fun _ _ w => (z _ _).mp w) fun _ _ w => w, fun q => q.mono (fun _ _ w => (z _ _).mpr w) fun _ _ w => w⟩
theorem wr_catV {f g : EM} {P : List IV → IH → Prop} : wr (lCatV f g e h) P X ↔ wr (f e h) (fun x h1 => wr (g e h1) (fun y h2 => wr (catK x y h2) P X) X) X := by
  unfold lCatV
  rw [wr_bind]
  exact ⟨fun q => q.mono (fun _ _ w => wr_bind.mp w) fun _ _ w => w, fun q => q.mono (fun _ _ w => wr_bind.mpr w) fun _ _ w => w⟩
theorem wr_rep {f : IEnv → IH → R (List IV)} {g : EM} {P : List IV → IH → Prop} : wr (lRep f g e h) P X ↔ wr (f e h) (fun xs h1 => wr (g e h1) (fun y h2 => ∃ k, y = .int k ∧ (-(2 ^ 63) ≤ k ∧ k < 2 ^ 63 ∧ xs.length * k.toNat ≤ sizeLine) ∧ P (List.replicate k.toNat xs).flatten h2) X) X := by
  unfold lRep
  rw [wr_bind]
  have z : ∀ (xs : List IV) (x : IV) (h1 : IH), wr (match x with | .int k => (if -(2 ^ 63) ≤ k ∧ k < 2 ^ 63 ∧ xs.length * k.toNat ≤ sizeLine then R.ok (List.replicate k.toNat xs).flatten h1 else .bad) | _ => .bad) P X ↔ ∃ k, x = .int k ∧ (-(2 ^ 63) ≤ k ∧ k < 2 ^ 63 ∧ xs.length * k.toNat ≤ sizeLine) ∧ P (List.replicate k.toNat xs).flatten h1 := fun xs x h1 => by
    cases x with
    | int i => exact ⟨fun q => ⟨i, rfl, (wr_guard.mp q).1, wr_ok.mp (wr_guard.mp q).2⟩, fun ⟨_, q, p⟩ => by cases q; exact wr_guard.mpr ⟨p.1, wr_ok.mpr p.2⟩⟩
    | _ => exact ⟨fun q => (wr_bad.mp q).elim, fun ⟨_, q, _⟩ => by cases q⟩
  exact ⟨fun q => q.mono (fun _ _ w => (wr_bind.mp w).mono (fun _ _ w => (z _ _ _).mp w) fun _ _ w => w) fun _ _ w => w, fun q => q.mono (fun _ _ w => wr_bind.mpr (w.mono (fun _ _ w => (z _ _ _).mpr w) fun _ _ w => w)) fun _ _ w => w⟩
theorem wr_rg1L {f : EM} {P : List IV → IH → Prop} : wr (lRg1 f e h) P X ↔ wr (f e h) (fun x h1 => ∃ n, x = .int n ∧ rgOk 0 n = true ∧ P (lRange 0 n) h1) X := by
  unfold lRg1
  rw [wr_bind]
  have z : ∀ (x : IV) (h1 : IH), wr (match x with | .int n => (if rgOk 0 n = true then R.ok (lRange 0 n) h1 else .bad) | _ => .bad) P X ↔ ∃ n, x = .int n ∧ rgOk 0 n = true ∧ P (lRange 0 n) h1 := fun x h1 => by
    cases x with
    | int i => exact ⟨fun q => ⟨i, rfl, (wr_guard.mp q).1, wr_ok.mp (wr_guard.mp q).2⟩, fun ⟨_, q, p⟩ => by cases q; exact wr_guard.mpr ⟨p.1, wr_ok.mpr p.2⟩⟩
    | _ => exact ⟨fun q => (wr_bad.mp q).elim, fun ⟨_, q, _⟩ => by cases q⟩
  exact ⟨fun q => q.mono (fun _ _ w => (z _ _).mp w) fun _ _ w => w, fun q => q.mono (fun _ _ w => (z _ _).mpr w) fun _ _ w => w⟩
theorem wr_srt {f : EM} {P : List IV → IH → Prop} : wr (lSrt f e h) P X ↔ wr (f e h) (fun x h1 => wr (srtK x h1) P X) X := wr_bind
theorem wr_idx {f : EM} {g : IEnv → IH → R (List IV)} {P : IV → IH → Prop} : wr (eIdx f g e h) P X ↔ wr (f e h) (fun x h1 => wr (idxK g e x h1) P X) X := wr_bind
theorem wr_sset {f : IEnv → IH → R (List IV)} {P : List IV → IH → Prop} : wr (lSortSet f e h) P X ↔ wr (f e h) (fun xs h1 => ∃ ns, intsOf xs = some ns ∧ ns.length < 60 ∧ P ((sortU ns).map .int) h1) X := by
  unfold lSortSet
  rw [wr_bind]
  have z : ∀ (xs : List IV) (h1 : IH), wr (match intsOf xs with | some ns => (if ns.length < 60 then R.ok ((sortU ns).map .int) h1 else .bad) | none => .bad) P X ↔ ∃ ns, intsOf xs = some ns ∧ ns.length < 60 ∧ P ((sortU ns).map .int) h1 := fun xs h1 => by
    cases hi : intsOf xs with
    | none => exact ⟨fun q => (wr_bad.mp q).elim, fun ⟨_, q, _⟩ => by cases q⟩
    | some ns => exact ⟨fun q => ⟨ns, rfl, (wr_guard.mp q).1, wr_ok.mp (wr_guard.mp q).2⟩, fun ⟨_, q, p⟩ => by cases q; exact wr_guard.mpr ⟨p.1, wr_ok.mpr p.2⟩⟩
  exact ⟨fun q => q.mono (fun _ _ w => (z _ _).mp w) fun _ _ w => w, fun q => q.mono (fun _ _ w => (z _ _).mpr w) fun _ _ w => w⟩
end
end MM
/-! R2: loops, comprehensions, defs -/
namespace MM
open PySem L2
section
variable {α β : Type} {P : α → IH → Prop} {Q : β → IH → Prop} {X : XC → IH → Prop} {K : Ks} {e : IEnv} {h : IH}
theorem wr_both {r : R α} {P' : α → IH → Prop} (z : ∀ a h, P a h ↔ P' a h) : wr r P X ↔ wr r P' X := ⟨fun q => q.mono (fun _ _ w => (z _ _).mp w) fun _ _ w => w, fun q => q.mono (fun _ _ w => (z _ _).mpr w) fun _ _ w => w⟩
/-! ### for -/
theorem wp_for {it : ItM} {g : GM} {b : SM} : wp (sFor it g b e h) K ↔ wr (it e h) (fun p h1 => wp (forM p.2 g b p.1 e h1) K) (fun x h => K.ex x e h) := by
  unfold sFor
  exact wp_of
theorem wp_forM {G : IH → Bool} {g : GM} {b : SM} {xs : List IV} (I : Nat → IEnv → IH → Prop) (i0 : I 0 e h) (hG : ∀ i e h, i ≤ xs.length → I i e h → G h = true)
    (st : ∀ i (hi : i < xs.length) e h, I i e h → ∃ e1 h1, g xs[i] e h = some (e1, h1) ∧ wp (b e1 h1) ⟨I (i + 1), K.rt, K.nx, I (i + 1), K.ex⟩)
    (hN : ∀ e h, I xs.length e h → K.nx e h) : wp (forM G g b xs e h) K := by
  have go : ∀ (k : Nat) (ys : List IV) (e : IEnv) (h : IH), k + ys.length = xs.length → ys = xs.drop k → I k e h → wp (forM G g b ys e h) K := by
    intro k ys
    induction ys generalizing k with
    | nil =>
      intro e h hk _ ii
      simp at hk
      unfold forM
      rw [if_pos (hG k e h (by omega) ii)]
      exact ⟨hN e h (by rw [← hk]; exact ii)⟩
    | cons y ys ih =>
      intro e h hk hy ii
      rw [List.length_cons] at hk
      have hkl : k < xs.length := by omega
      rw [List.drop_eq_getElem_cons hkl] at hy
      cases hy
      unfold forM
      rw [if_pos (hG k e h (by omega) ii)]
      obtain ⟨e1, h1, e3, q⟩ := st k hkl e h ii
      rw [e3]
      dsimp only
      cases hb : b e1 h1 with
      | nx e2 h2 => rw [hb] at q; exact ih (k + 1) e2 h2 (by omega) rfl q.po
      | ct e2 h2 => rw [hb] at q; exact ih (k + 1) e2 h2 (by omega) rfl q.po
      | bk e2 h2 => rw [hb] at q; exact ⟨q.po⟩
      | rt v h2 => rw [hb] at q; exact ⟨q.po⟩
      | exc x e2 h2 => rw [hb] at q; exact ⟨q.po⟩
      | bad => rw [hb] at q; exact q.po.elim
  exact go 0 xs e h (by omega) (by simp) i0
/-- over a row told by f -/
theorem wp_forL {G : IH → Bool} {g : GM} {b : SM} {xs : List α} {mk : α → IV} (I : List α → IEnv → IH → Prop) (i0 : I [] e h) (hG : ∀ l e h, I l e h → G h = true)
    (st : ∀ l x r e h, xs = l ++ x :: r → I l e h → ∃ e1 h1, g (mk x) e h = some (e1, h1) ∧ wp (b e1 h1) ⟨I (l ++ [x]), K.rt, K.nx, I (l ++ [x]), K.ex⟩)
    (hN : ∀ e h, I xs e h → K.nx e h) : wp (forM G g b (xs.map mk) e h) K := by
  refine wp_forM (fun i e h => I (xs.take i) e h) (by simpa using i0) (fun i e h _ q => hG _ _ _ q) (fun i hi e h q => ?_) fun e h q => hN e h ?_
  · have hi' : i < xs.length := by simpa using hi
    have e2 : (xs.map mk)[i] = mk xs[i] := List.getElem_map ..
    rw [e2]
    have e3 : xs.take (i + 1) = xs.take i ++ [xs[i]] := by rw [List.take_succ, List.getElem?_eq_getElem hi']; rfl
    rw [e3]
    exact st (xs.take i) xs[i] (xs.drop (i + 1)) e h (by rw [← List.drop_eq_getElem_cons hi', List.take_append_drop]) q
  · have : (xs.map mk).length = xs.length := List.length_map ..
    rw [this, List.take_length] at q
    exact q
theorem wp_while {n : IEnv → IH → Nat} {c : IEnv → IH → R Bool} {b : SM} (I : Nat → IEnv → IH → Prop) (m : Nat) (hm : m < n e h) (i0 : I m e h)
    (st : ∀ m e h, I m e h → wr (c e h) (fun t h1 => (t = true → 0 < m ∧ wp (b e h1) ⟨fun e2 h2 => ∃ k, k < m ∧ I k e2 h2, K.rt, K.nx, fun e2 h2 => ∃ k, k < m ∧ I k e2 h2, K.ex⟩) ∧ (t = false → K.nx e h1)) fun x h1 => K.ex x e h1) : wp (sWhile n c b e h) K := by
  unfold sWhile
  have go : ∀ (k m : Nat) (e : IEnv) (h : IH), m < k → I m e h → wp (whileM c b k e h) K := by
    intro k
    induction k with
    | zero => intro m e h hm _; omega
    | succ k ih =>
      intro m e h hm ii
      unfold whileM
      rw [wp_of]
      refine (st m e h ii).mono (fun t h1 q => ?_) fun _ _ w => w
      cases t with
      | true =>
        obtain ⟨h0, q⟩ := q.1 rfl
        rw [if_pos rfl]
        cases hb : b e h1 with
        | nx e2 h2 => rw [hb] at q; obtain ⟨j, hj, ij⟩ := q.po; exact ih j e2 h2 (by omega) ij
        | ct e2 h2 => rw [hb] at q; obtain ⟨j, hj, ij⟩ := q.po; exact ih j e2 h2 (by omega) ij
        | bk e2 h2 => rw [hb] at q; exact ⟨q.po⟩
        | rt v h2 => rw [hb] at q; exact ⟨q.po⟩
        | exc x e2 h2 => rw [hb] at q; exact ⟨q.po⟩
        | bad => rw [hb] at q; exact q.po.elim
      | false =>
        rw [if_neg (by decide)]
        exact ⟨q.2 rfl⟩
  exact go _ m e h hm i0

/-! ### what is walked -/
theorem wr_iSeq {f : EM} {P : List IV × (IH → Bool) → IH → Prop} : wr (iSeq f e h) P X ↔ wr (f e h) (fun x h1 => wr (seqK x h1) P X) X := wr_bind
theorem wr_iEnum {f : EM} {P : List IV × (IH → Bool) → IH → Prop} : wr (iEnumV f e h) P X ↔ wr (f e h) (fun x h1 => wr (enumK x h1) P X) X := wr_bind
theorem wr_iFresh {f : IEnv → IH → R (List IV)} {P : List IV × (IH → Bool) → IH → Prop} : wr (iFresh f e h) P X ↔ wr (f e h) (fun xs h1 => P (xs, fun _ => true) h1) X := wr_map
theorem wr_iRg1 {f : EM} {P : List IV × (IH → Bool) → IH → Prop} : wr (iRg1 f e h) P X ↔ wr (f e h) (fun x h1 => ∃ n, x = .int n ∧ rgOk 0 n = true ∧ P (lRange 0 n, fun _ => true) h1) X := by
  unfold iRg1
  rw [wr_bind]
  refine wr_both fun x h1 => ?_
  cases x with
  | int i => exact ⟨fun q => ⟨i, rfl, (wr_guard.mp q).1, wr_ok.mp (wr_guard.mp q).2⟩, fun ⟨_, q, p⟩ => by cases q; exact wr_guard.mpr ⟨p.1, wr_ok.mpr p.2⟩⟩
  | _ => exact ⟨fun q => (wr_bad.mp q).elim, fun ⟨_, q, _⟩ => by cases q⟩
theorem wr_iRg2 {f g : EM} {P : List IV × (IH → Bool) → IH → Prop} : wr (iRg2 f g e h) P X ↔ wr (f e h) (fun x h1 => wr (g e h1) (fun y h2 => ∃ a b, x = .int a ∧ y = .int b ∧ rgOk a b = true ∧ P (lRange a b, fun _ => true) h2) X) X := by
  unfold iRg2
  rw [wr_bind]
  refine wr_both fun x h1 => ?_
  rw [wr_bind]
  refine wr_both fun y h2 => ?_
  cases x with
  | int i =>
    cases y with
    | int j => exact ⟨fun q => ⟨i, j, rfl, rfl, (wr_guard.mp q).1, wr_ok.mp (wr_guard.mp q).2⟩, fun ⟨_, _, q, q2, p⟩ => by cases q; cases q2; exact wr_guard.mpr ⟨p.1, wr_ok.mpr p.2⟩⟩
    | _ => exact ⟨fun q => (wr_bad.mp q).elim, fun ⟨_, _, _, q, _⟩ => by cases q⟩
  | _ => exact ⟨fun q => (wr_bad.mp q).elim, fun ⟨_, _, q, _⟩ => by cases q⟩

/-! ### comprehensions -/
theorem wr_lc {own : List Nat} {it : ItM} {g : GM} {c : IEnv → IH → R Bool} {f : EM} {P : List IV → IH → Prop} : wr (lLc own it g c f e h) P X ↔ wr (it e h) (fun p h1 => p.1.length ≤ sizeLine ∧ wr (lcM p.2 g c f (wipeE e own) p.1 h1) P X) X := by
  unfold lLc
  rw [wr_bind]
  exact wr_both fun p h1 => wr_guard
/-- the steps leave the heap -/
theorem lc_if {G : IH → Bool} {g : GM} {c : IEnv → IH → R Bool} {f : EM} {P : List IV → IH → Prop} {xs : List α} {mk : α → IV} (p : α → Bool) (mv : α → IV) (hG : G h = true)
    (hx : ∀ x ∈ xs, ∃ e1, g (mk x) e h = some (e1, h) ∧ wr (c e1 h) (fun b h1 => b = p x ∧ h1 = h) (fun _ _ => False) ∧ (p x = true → wr (f e1 h) (fun v h1 => v = mv x ∧ h1 = h) fun _ _ => False))
    (hP : P ((xs.filter p).map mv) h) : wr (lcM G g c f e (xs.map mk) h) P X := by
  have run : lcM G g c f e (xs.map mk) h = .ok ((xs.filter p).map mv) h := by
    clear hP
    induction xs with
    | nil =>
      show (if G h = true then R.ok [] h else .bad) = _
      rw [if_pos hG]; rfl
    | cons x xs ih =>
      obtain ⟨e1, q1, q2, q3⟩ := hx x (List.mem_cons_self ..)
      have ih := ih fun y hy => hx y (List.mem_cons_of_mem _ hy)
      rw [List.map_cons]
      unfold lcM
      rw [if_pos hG, q1]
      dsimp only
      rw [wr_eq q2]
      dsimp only [R.nox, R.bind]
      cases hp : p x with
      | true =>
        rw [if_pos rfl, wr_eq (q3 hp)]
        dsimp only [R.nox, R.bind]
        rw [ih, List.filter_cons_of_pos (by rw [hp])]
        rfl
      | false => rw [if_neg (by decide), ih, List.filter_cons_of_neg (by rw [hp]; decide)]
  rw [run, wr_ok]
  exact hP
theorem lc_map' {G : IH → Bool} {g : GM} {f : EM} {P : List IV → IH → Prop} {xs : List α} {mk : α → IV} (mv : α → IV) (hG : G h = true)
    (hx : ∀ x ∈ xs, ∃ e1, g (mk x) e h = some (e1, h) ∧ wr (f e1 h) (fun v h1 => v = mv x ∧ h1 = h) fun _ _ => False)
    (hP : P (xs.map mv) h) : wr (lcM G g tYesM f e (xs.map mk) h) P X :=
  lc_if (fun _ => true) mv hG (fun x hx' => by obtain ⟨e1, q1, q2⟩ := hx x hx'; exact ⟨e1, q1, wr_ok.mpr ⟨rfl, rfl⟩, fun _ => q2⟩) (by rw [List.filter_eq_self.mpr fun _ _ => rfl]; exact hP)
/-- the steps change the heap -/
theorem lc_step {G : IH → Bool} {g : GM} {f : EM} {P : List IV → IH → Prop} {xs : List IV} (I : Nat → List IV → IH → Prop) (i0 : I 0 [] h) (hG : ∀ i acc h, I i acc h → G h = true)
    (st : ∀ i (hi : i < xs.length) acc h, I i acc h → ∃ e1 h1, g xs[i] e h = some (e1, h1) ∧ wr (f e1 h1) (fun v h2 => I (i + 1) (acc ++ [v]) h2) fun _ _ => False)
    (hP : ∀ acc h, I xs.length acc h → P acc h) : wr (lcM G g tYesM f e xs h) P X := by
  have go : ∀ (k : Nat) (ys acc : List IV) (h : IH), k + ys.length = xs.length → ys = xs.drop k → I k acc h → wr (lcM G g tYesM f e ys h) (fun l h1 => P (acc ++ l) h1) X := by
    intro k ys
    induction ys generalizing k with
    | nil =>
      intro acc h hk _ ii
      simp at hk
      unfold lcM
      rw [if_pos (hG k acc h ii), wr_ok, List.append_nil]
      exact hP acc h (by rw [← hk]; exact ii)
    | cons y ys ih =>
      intro acc h hk hy ii
      rw [List.length_cons] at hk
      have hkl : k < xs.length := by omega
      rw [List.drop_eq_getElem_cons hkl] at hy
      cases hy
      obtain ⟨e1, h1, e3, q⟩ := st k hkl acc h ii
      rcases q.ex with ⟨v, h2, ev, i2⟩ | ⟨_, _, _, fls⟩
      · have e5 : lcM G g tYesM f e (xs[k] :: xs.drop (k + 1)) h = (lcM G g tYesM f e (xs.drop (k + 1)) h2).bind fun ys h4 => .ok (v :: ys) h4 := by
          conv => lhs; unfold lcM
          rw [if_pos (hG k acc h ii), e3]
          show (if true = true then ((f e1 h1).nox.bind fun y h3 => (lcM G g tYesM f e (xs.drop (k + 1)) h3).bind fun ys h4 => R.ok (y :: ys) h4) else lcM G g tYesM f e (xs.drop (k + 1)) h1) = _
          rw [if_pos rfl, ev]
          rfl
        have := ih (k + 1) (acc ++ [v]) h2 (by omega) rfl i2
        rw [e5, wr_map]
        refine this.mono (fun l h3 w => ?_) fun _ _ w => w
        rw [List.append_assoc] at w
        exact w
      · exact fls.elim
  exact (go 0 xs [] h (by omega) (by simp) i0).mono (fun l h1 w => w) fun _ _ w => w

/-! ### defs -/
theorem fin0 {u : IV} (hu : below 0 u = true) (h : IH) : fin 0 u h = .ok u [] := by
  unfold fin
  rw [if_pos (by simp)]
  unfold froz
  rw [if_pos hu]
  rfl
theorem fin0_ref {k : Nat} {h : IH} {xs : List IV} (hk : h[k]? = some (.lst xs)) (hx : belows 0 xs = true) : fin 0 (.ref k) h = .ok (.fz xs) [] := by
  have all : ∀ (f : Nat) (xs : List IV), belows 0 xs = true → optAll (froz h 0 (f + 1)) xs = some xs := fun f xs => by
    induction xs with
    | nil => intro _; rfl
    | cons y ys ih =>
      intro b
      simp only [belows, Bool.and_eq_true] at b
      unfold optAll
      rw [show froz h 0 (f + 1) y = some y by unfold froz; rw [if_pos b.1], ih b.2]
  unfold fin
  rw [if_pos (by simp)]
  unfold froz
  rw [if_neg (by simp [below])]
  dsimp only
  rw [hk]
  dsimp only
  rw [all 68 xs hx]
  rfl
/-- what a def tells at its end -/
def Rt (w : IV) (u : IV) (h : IH) : Prop := fin 0 u h = .ok w []
theorem Rt.val {u : IV} {h : IH} (hu : below 0 u = true) : Rt u u h := fin0 hu h
theorem Rt.lst {k : Nat} {h : IH} {xs : List IV} (hk : h[k]? = some (.lst xs)) (hx : belows 0 xs = true) : Rt (.fz xs) (.ref k) h := fin0_ref hk hx
abbrev KT (w : IV) : Ks := ⟨fun _ h => Rt w .non h, fun u h => Rt w u h, fun _ _ => False, fun _ _ => False, fun _ _ _ => False⟩
abbrev KX (c : Nat) : Ks := ⟨fun _ _ => False, fun _ _ => False, fun _ _ => False, fun _ _ => False, fun x _ _ => x = ⟨c, none⟩⟩
theorem runG_eq {fn : Nat → IV → IH → R IV} {np n : Nat} {b : SM} {vs : List IV} {h : IH} (hn : vs.length = np) : runG fn np n b vs h = match b (vs.map some ++ List.replicate (n - vs.length) none) h with
    | .nx _ h' => fn h.length .non h'
    | .rt v h' => fn h.length v h'
    | .exc x _ h' => finX h.length x h'
    | _ => .bad := by unfold runG; rw [if_pos hn]; try rfl
theorem spec {F : FM} {np n : Nat} {b : SM} (E : F = pureF (runF np n b)) {vs : List IV} {w : IV} (hb : belows 0 vs = true) (hn : vs.length = np) (q : wp (b (vs.map some ++ List.replicate (n - vs.length) none) []) (KT w)) (h : IH) : F vs h = .ok w h := by
  have r : runF np n b vs [] = .ok w [] := by
    rw [show runF np n b vs [] = _ from runG_eq hn]
    cases hr : b (vs.map some ++ List.replicate (n - vs.length) none) [] with
    | nx e1 h1 => rw [hr] at q; exact q.po
    | rt v h1 => rw [hr] at q; exact q.po
    | bk _ _ => rw [hr] at q; exact q.po.elim
    | ct _ _ => rw [hr] at q; exact q.po.elim
    | exc _ _ _ => rw [hr] at q; exact q.po.elim
    | bad => rw [hr] at q; exact q.po.elim
  rw [E]
  unfold pureF
  rw [if_pos hb, r]
theorem specX {F : FM} {np n : Nat} {b : SM} (E : F = pureF (runF np n b)) {vs : List IV} {c : Nat} (hb : belows 0 vs = true) (hn : vs.length = np) (q : wp (b (vs.map some ++ List.replicate (n - vs.length) none) []) (KX c)) (h : IH) : F vs h = .exc ⟨c, none⟩ h := by
  have r : runF np n b vs [] = .exc ⟨c, none⟩ [] := by
    rw [show runF np n b vs [] = _ from runG_eq hn]
    cases hr : b (vs.map some ++ List.replicate (n - vs.length) none) [] with
    | exc x e1 h1 =>
      rw [hr] at q
      obtain rfl : x = ⟨c, none⟩ := q.po
      dsimp only
      unfold finX
      rw [if_pos ⟨by simp, rfl⟩]
      rfl
    | nx _ _ => rw [hr] at q; exact q.po.elim
    | rt _ _ => rw [hr] at q; exact q.po.elim
    | bk _ _ => rw [hr] at q; exact q.po.elim
    | ct _ _ => rw [hr] at q; exact q.po.elim
    | bad => rw [hr] at q; exact q.po.elim
  rw [E]
  unfold pureF
  rw [if_pos hb, r]
/-- a new list, to be written -/
def RtN (Q : List IV → Prop) (u : IV) (h : IH) : Prop := ∃ k zs, u = .ref k ∧ h[k]? = some (.lst zs) ∧ belows 0 zs = true ∧ Q zs
abbrev KN (Q : List IV → Prop) : Ks := ⟨fun _ _ => False, RtN Q, fun _ _ => False, fun _ _ => False, fun _ _ _ => False⟩
theorem finR_ref {n k : Nat} {h : IH} {zs : List IV} (hk : h[k]? = some (.lst zs)) (hb : (h.take n).all (belowO n) = true) (hz : belows n zs = true) (hn : n ≤ k) : finR n (.ref k) h = .ok (.ref n) (h.take n ++ [.lst zs]) := by
  unfold finR
  rw [if_pos hb, if_neg (by simp only [below, decide_eq_true_eq]; omega)]
  dsimp only
  rw [hk]
  dsimp only
  rw [if_pos ⟨hn, hz⟩]
theorem specN {F : FM} {np n : Nat} {b : SM} (E : F = newF (runR np n b)) {vs : List IV} {Q : List IV → Prop} (hb : belows 0 vs = true) (hn : vs.length = np) (q : wp (b (vs.map some ++ List.replicate (n - vs.length) none) []) (KN Q)) : ∃ zs, (∀ h, F vs h = .ok (.ref h.length) (h ++ [.lst zs])) ∧ belows 0 zs = true ∧ Q zs := by
  have r : ∃ zs, runR np n b vs [] = .ok (.ref 0) [.lst zs] ∧ belows 0 zs = true ∧ Q zs := by
    rw [show runR np n b vs [] = _ from runG_eq hn]
    cases hr : b (vs.map some ++ List.replicate (n - vs.length) none) [] with
    | rt v h1 =>
      rw [hr] at q
      obtain ⟨k, zs, rfl, hk, hz, hq⟩ := q.po
      exact ⟨zs, finR_ref hk (by simp) hz (Nat.zero_le _), hz, hq⟩
    | nx _ _ => rw [hr] at q; exact q.po.elim
    | exc _ _ _ => rw [hr] at q; exact q.po.elim
    | bk _ _ => rw [hr] at q; exact q.po.elim
    | ct _ _ => rw [hr] at q; exact q.po.elim
    | bad => rw [hr] at q; exact q.po.elim
  obtain ⟨zs, r, hz, hq⟩ := r
  refine ⟨zs, fun h => ?_, hz, hq⟩
  rw [E]
  unfold newF
  rw [if_pos hb, r]
  exact if_pos hz
/-- a def that writes its first list: what is told, what stands in the list then -/
def RtC (Q : IV → List IV → Prop) (u : IV) (h : IH) : Prop := ∃ w ys t, h = .lst ys :: t ∧ fin 1 u h = .ok w [.lst ys] ∧ below 0 w = true ∧ belows 0 ys = true ∧ Q w ys
abbrev KC (Q : IV → List IV → Prop) : Ks := ⟨fun _ h => RtC Q .non h, RtC Q, fun _ _ => False, fun _ _ => False, fun _ _ _ => False⟩
end
mutual
theorem below_le {n m : Nat} (h : n ≤ m) : ∀ x : IV, below n x = true → below m x = true
  | .ref k, q => by simp only [below, decide_eq_true_eq] at q ⊢; omega
  | .tup xs, q => by simp only [below] at q ⊢; exact belows_le h xs q
  | .fz xs, q => by simp only [below] at q ⊢; exact belows_le h xs q
  | .non, _ => rfl
  | .bl _, _ => rfl
  | .int _, _ => rfl
  | .str _, _ => rfl
theorem belows_le {n m : Nat} (h : n ≤ m) : ∀ xs : List IV, belows n xs = true → belows m xs = true
  | [], _ => rfl
  | x :: xs, q => by
    simp only [belows, Bool.and_eq_true] at q ⊢
    exact ⟨below_le h x q.1, belows_le h xs q.2⟩
end
theorem froz_self {h : IH} {n f : Nat} {x : IV} (b : below n x = true) : froz h n (f + 1) x = some x := by unfold froz; rw [if_pos b]
theorem frozs_self {h : IH} {n f : Nat} : ∀ {xs : List IV}, belows n xs = true → optAll (froz h n (f + 1)) xs = some xs
  | [], _ => rfl
  | y :: ys, b => by
    simp only [belows, Bool.and_eq_true] at b
    unfold optAll
    rw [froz_self b.1, frozs_self b.2]
theorem RtC.val {Q : IV → List IV → Prop} {u : IV} {ys : List IV} {t : IH} (hu : below 0 u = true) (hy : belows 0 ys = true) (q : Q u ys) : RtC Q u (.lst ys :: t) := by
  refine ⟨u, ys, t, rfl, ?_, hu, hy, q⟩
  have b1 : belowO 1 (.lst ys) = true := belows_le (Nat.zero_le _) ys hy
  unfold fin
  rw [List.take_succ_cons, List.take_zero, if_pos (by simp [b1]), froz_self (below_le (Nat.zero_le _) u hu)]
theorem RtC.lst {Q : IV → List IV → Prop} {k : Nat} {xs ys : List IV} {t : IH} (hk : t[k]? = some (.lst xs)) (hx : belows 0 xs = true) (hy : belows 0 ys = true) (q : Q (.fz xs) ys) : RtC Q (.ref (k + 1)) (.lst ys :: t) := by
  refine ⟨.fz xs, ys, t, rfl, ?_, by simp only [below]; exact hx, hy, q⟩
  have b1 : belowO 1 (.lst ys) = true := belows_le (Nat.zero_le _) ys hy
  unfold fin
  rw [List.take_succ_cons, List.take_zero, if_pos (by simp [b1])]
  unfold froz
  rw [if_neg (by simp [below])]
  dsimp only
  rw [List.getElem?_cons_succ, hk]
  dsimp only
  rw [frozs_self (belows_le (Nat.zero_le _) xs hx)]
  rfl
theorem specC {F : FM} {np n : Nat} {b : SM} (E : F = cellF (runF np n b)) {ws xs : List IV} {Q : IV → List IV → Prop} (hb : belows 0 ws = true) (hx : belows 0 xs = true) (hn : ws.length + 1 = np) (q : wp (b (some (.ref 0) :: ws.map some ++ List.replicate (n - (ws.length + 1)) none) [.lst xs]) (KC Q)) :
    ∃ w ys, (∀ k h, h[k]? = some (.lst xs) → F (.ref k :: ws) h = .ok w (h.set k (.lst ys))) ∧ below 0 w = true ∧ belows 0 ys = true ∧ Q w ys := by
  have r : ∃ w ys, runF np n b (.ref 0 :: ws) [.lst xs] = .ok w [.lst ys] ∧ below 0 w = true ∧ belows 0 ys = true ∧ Q w ys := by
    rw [show runF np n b (.ref 0 :: ws) [.lst xs] = _ from runG_eq (by rw [List.length_cons]; exact hn)]
    rw [List.map_cons, List.length_cons]
    cases hr : b (some (.ref 0) :: ws.map some ++ List.replicate (n - (ws.length + 1)) none) [.lst xs] with
    | rt v h1 =>
      rw [hr] at q
      obtain ⟨w, ys, t, rfl, f, a1, a2, a3⟩ := q.po
      exact ⟨w, ys, f, a1, a2, a3⟩
    | nx e1 h1 =>
      rw [hr] at q
      obtain ⟨w, ys, t, rfl, f, a1, a2, a3⟩ := q.po
      exact ⟨w, ys, f, a1, a2, a3⟩
    | exc _ _ _ => rw [hr] at q; exact q.po.elim
    | bk _ _ => rw [hr] at q; exact q.po.elim
    | ct _ _ => rw [hr] at q; exact q.po.elim
    | bad => rw [hr] at q; exact q.po.elim
  obtain ⟨w, ys, r, a1, a2, a3⟩ := r
  refine ⟨w, ys, fun k h hk => ?_, a1, a2, a3⟩
  rw [E]
  unfold cellF
  dsimp only
  rw [hk]
  dsimp only
  rw [if_pos ⟨hb, hx⟩, r]
  exact if_pos ⟨a1, a2⟩
end MM
/-! R3: rows, data, charts (plain) -/
namespace MM
open PySem L2
/-! ### rows of whole numbers -/
abbrev iz (xs : List Int) : List IV := xs.map .int
def rng (n : Int) : List Int := (List.range n.toNat).map fun (i : Nat) => (i : Int)
theorem rng_len (n : Int) : (rng n).length = n.toNat := by unfold rng; simp
theorem rng_get? {n : Int} {i : Nat} (h : i < n.toNat) : (rng n)[i]? = some (i : Int) := by
  unfold rng
  rw [List.getElem?_map, List.getElem?_range h]
  rfl
theorem rng_get {n : Int} {i : Nat} (h : i < (rng n).length) : (rng n)[i] = (i : Int) := by
  have a := rng_get? (n := n) (i := i) (by rw [← rng_len]; exact h)
  rw [List.getElem?_eq_getElem h] at a
  exact Option.some.inj a
theorem rng_mem {n x : Int} : x ∈ rng n ↔ 0 ≤ x ∧ x < n := by
  unfold rng
  rw [List.mem_map]
  constructor
  · rintro ⟨i, hi, rfl⟩
    rw [List.mem_range] at hi
    omega
  · rintro ⟨h1, h2⟩
    exact ⟨x.toNat, by rw [List.mem_range]; omega, by omega⟩
theorem rng_sorted (n : Int) : (rng n).Pairwise (· < ·) := by
  unfold rng
  rw [List.pairwise_map]
  exact List.pairwise_lt_range.imp fun h => by omega
theorem lRange_rng (n : Int) : lRange 0 n = iz (rng n) := by
  unfold lRange rng iz
  rw [List.map_map, Int.sub_zero]
  exact List.map_congr_left fun i _ => by simp
theorem rgOk_of {n : Int} (h1 : 0 ≤ n) (h2 : n ≤ 2 ^ 20) : rgOk 0 n = true := by
  unfold rgOk
  rw [decide_eq_true_eq]
  omega
theorem ints_below : ∀ (n : Nat) (xs : List Int), belows n (iz xs) = true
  | _, [] => rfl
  | n, x :: xs => by simp only [iz, List.map_cons, belows, below, Bool.true_and]; exact ints_below n xs
theorem below_tup (n : Nat) (xs : List Int) : below n (.tup (iz xs)) = true := by simp only [below]; exact ints_below n xs
def geti (xs : List Int) (i : Int) : Int := xs.getD i.toNat 0
theorem geti_mem {xs : List Int} {i : Int} (h1 : 0 ≤ i) (h2 : i < xs.length) : geti xs i ∈ xs := by
  unfold geti
  rw [List.getD_eq_getElem?_getD, List.getElem?_eq_getElem (by omega)]
  exact List.getElem_mem _
theorem atI_at {α : Type} {xs : List α} {i : Int} (h1 : 0 ≤ i) (h2 : i < xs.length) : atI xs i = xs[i.toNat]? := by
  unfold atI ixN
  rw [if_pos h1, if_pos h2]
  rfl
theorem ix_tup {xs : List Int} {i : Int} {h : IH} (h1 : 0 ≤ i) (h2 : i < xs.length) : bIx (.tup (iz xs)) (.int i) h = .ok (.int (geti xs i)) h := by
  have e : atI (iz xs) i = some (.int (geti xs i)) := by
    rw [atI_at h1 (by simpa using h2)]
    unfold geti
    rw [List.getElem?_map, List.getD_eq_getElem?_getD, List.getElem?_eq_getElem (by omega)]
    rfl
  unfold bIx items
  dsimp only
  rw [e]
theorem ix_ref {xs : List Int} {i : Int} {h : IH} {k : Nat} (hk : h[k]? = some (.lst (iz xs))) (h1 : 0 ≤ i) (h2 : i < xs.length) : bIx (.ref k) (.int i) h = .ok (.int (geti xs i)) h := by
  have e : atI (iz xs) i = some (.int (geti xs i)) := by
    rw [atI_at h1 (by simpa using h2)]
    unfold geti
    rw [List.getElem?_map, List.getD_eq_getElem?_getD, List.getElem?_eq_getElem (by omega)]
    rfl
  unfold bIx items
  dsimp only
  rw [hk]
  dsimp only
  rw [e]
/-- a comprehension whose steps leave the heap -/
theorem lc_pure {G : IH → Bool} {g : GM} {c : IEnv → IH → R Bool} {f : EM} {e : IEnv} {h : IH} {α β : Type} (mk : α → IV) (p : α → Bool) (v : α → β) (mv : β → IV) (hG : G h = true) : ∀ (xs : List α),
    (∀ x ∈ xs, ∃ e1, g (mk x) e h = some (e1, h) ∧ c e1 h = .ok (p x) h ∧ (p x = true → f e1 h = .ok (mv (v x)) h)) → lcM G g c f e (xs.map mk) h = .ok (((xs.filter p).map v).map mv) h
  | [], _ => by
    show (if G h = true then R.ok [] h else .bad) = _
    rw [if_pos hG]
    rfl
  | x :: xs, st => by
    obtain ⟨e1, q1, q2, q3⟩ := st x (List.mem_cons_self ..)
    have ih := lc_pure (G := G) (g := g) (c := c) (f := f) (e := e) mk p v mv hG xs fun y hy => st y (List.mem_cons_of_mem _ hy)
    rw [List.map_cons]
    unfold lcM
    rw [if_pos hG, q1]
    dsimp only
    rw [q2]
    dsimp only [R.nox, R.bind]
    cases hp : p x with
    | true =>
      rw [if_pos rfl, q3 hp]
      dsimp only [R.nox, R.bind]
      rw [ih, List.filter_cons_of_pos (by rw [hp])]
      rfl
    | false =>
      rw [if_neg (by decide), ih, List.filter_cons_of_neg (by rw [hp]; decide)]
/-- a comprehension without an if -/
theorem lc_map {G : IH → Bool} {g : GM} {f : EM} {e : IEnv} {h : IH} {α β : Type} (mk : α → IV) (v : α → β) (mv : β → IV) (hG : G h = true) (xs : List α)
    (st : ∀ x ∈ xs, ∃ e1, g (mk x) e h = some (e1, h) ∧ f e1 h = .ok (mv (v x)) h) : lcM G g tYesM f e (xs.map mk) h = .ok ((xs.map v).map mv) h := by
  have := lc_pure (G := G) (g := g) (c := tYesM) (f := f) (e := e) (h := h) mk (fun _ => true) v mv hG xs fun x hx => by
    obtain ⟨e1, q1, q2⟩ := st x hx
    exact ⟨e1, q1, rfl, fun _ => q2⟩
  rw [this, List.filter_eq_self.mpr fun _ _ => rfl]
theorem sortU_of {xs ys : List Int} (hs : ys.Pairwise (· < ·)) (hm : ∀ z, z ∈ ys ↔ z ∈ xs) : sortU xs = ys := by
  have a := (sortU_sorted xs)
  have nd1 : (sortU xs).Nodup := a.imp fun h => Int.ne_of_lt h
  have nd2 : ys.Nodup := hs.imp fun h => Int.ne_of_lt h
  exact sorted_eq (a.imp fun h => Int.le_of_lt h) (hs.imp fun h => Int.le_of_lt h) ((List.perm_ext_iff_of_nodup nd1 nd2).mpr fun z => (sortU_mem z xs).trans (hm z).symm)
theorem intsOf_ints : ∀ xs : List Int, intsOf (iz xs) = some xs
  | [] => rfl
  | x :: xs => by
    have ih := intsOf_ints xs
    unfold intsOf at ih ⊢
    simp only [iz, List.map_cons, optAll]
    rw [ih]

theorem mod_ii {i j : Int} {h : IH} (hj : 0 < j) : bMod (.int i) (.int j) h = .ok (.int (i % j)) h := if_pos hj
theorem div_ii {i j : Int} {h : IH} (hj : 0 < j) (hz : j < 2 ^ 64) : bDiv (.int i) (.int j) h = .ok (.int (i / j)) h := if_pos ⟨hj, by
  have : j.natAbs.log2 < 64 := (Nat.log2_lt (by omega)).mpr (by omega)
  omega⟩
theorem mul_ii {i j : Int} {h : IH} (h1 : -(2 ^ 64) < i) (h2 : i < 2 ^ 64) : bMul (.int i) (.int j) h = .ok (.int (i * j)) h := if_pos (.inl (.inl ⟨h1, h2⟩))
theorem pow18 (h : IH) : bPow (.int 10) (.int 18) h = .ok (.int 1000000000000000000) h := (if_pos (by decide) : (if (0 : Int) ≤ 18 ∧ (18 : Int) ≤ 1000000 ∧ (10 : Int).natAbs < 2 ^ 64 then R.ok (IV.int ((10 : Int) ^ (18 : Int).toNat)) h else .bad) = _)
theorem gsb_ref {fo fi : EM} {e : IEnv} {h : IH} {k : Nat} {j : Int} {xs : List IV} {v : IV} (h1 : fo e h = .ok (.ref k) h) (h2 : fi e h = .ok (.int j) h) (hk : h[k]? = some (.lst xs)) (hj : 0 ≤ j) (hl : j < xs.length) :
    gSb fo fi v e h = some (e, h.set k (.lst (xs.set j.toNat v))) := by
  unfold gSb
  rw [h1]
  dsimp only
  rw [h2]
  dsimp only
  rw [hk]
  dsimp only
  unfold ixN
  rw [if_pos hj, if_pos hl]

theorem ixN20 : ixN 2 0 = some 0 := rfl
theorem ixN21 : ixN 2 1 = some 1 := rfl
theorem ix_0 {h : IH} {k : Nat} {x y : IV} (hk : h[k]? = some (.lst [x, y])) : bIx (.ref k) (.int 0) h = .ok x h := by unfold bIx items; dsimp only; rw [hk]; rfl
theorem ix_1 {h : IH} {k : Nat} {x y : IV} (hk : h[k]? = some (.lst [x, y])) : bIx (.ref k) (.int 1) h = .ok y h := by unfold bIx items; dsimp only; rw [hk]; rfl

/-! ### repr -/
theorem weightAll_le {B : Nat} : ∀ {ds : List PyData}, (∀ d ∈ ds, PyData.weight d ≤ B) → PyData.weightAll ds ≤ ds.length * (B + 1)
  | [], _ => by simp [PyData.weightAll]
  | d :: ds, h => by
    have a := h d (List.mem_cons_self ..)
    have b := weightAll_le (B := B) fun x hx => h x (List.mem_cons_of_mem _ hx)
    simp only [PyData.weightAll, List.length_cons, Nat.add_mul, Nat.one_mul]
    omega
/-! data whose text is told: of numbers, truths, None, in lists and tuples -/
mutual
def okD : PyData → Bool
  | .none => true
  | .bool _ => true
  | .int i => decide (i.natAbs < 10 ^ 12)
  | .list xs => okDs xs
  | .tuple xs => okDs xs
  | .str _ => false
  | .dict _ => false
def okDs : List PyData → Bool
  | [] => true
  | x :: xs => okD x && okDs xs
end
mutual
theorem okD_all : ∀ d : PyData, okD d = true → d.canLay0 = true ∧ d.intsShort 13 = true ∧ d.showable = true
  | .none, _ => ⟨rfl, rfl, rfl⟩
  | .bool _, _ => ⟨rfl, rfl, rfl⟩
  | .int i, h => by
    simp only [okD, decide_eq_true_eq] at h
    refine ⟨rfl, by simp only [PyData.intsShort, decide_eq_true_eq]; exact PyData.shown_int_le h, ?_⟩
    simp only [PyData.showable, decide_eq_true_eq]
    by_cases h0 : i.natAbs = 0
    · rw [h0]; decide
    · have h2 : i.natAbs < 2 ^ 1920 := Nat.lt_of_lt_of_le h (by decide +kernel)
      exact (Nat.log2_lt h0).mpr h2
  | .list xs, h => by
    simp only [okD] at h
    have q := okDs_all xs h
    exact ⟨by simpa only [PyData.canLay0] using q.1, by simpa only [PyData.intsShort] using q.2.1, by simpa only [PyData.showable] using q.2.2⟩
  | .tuple xs, h => by
    simp only [okD] at h
    have q := okDs_all xs h
    exact ⟨by simpa only [PyData.canLay0] using q.1, by simpa only [PyData.intsShort] using q.2.1, by simpa only [PyData.showable] using q.2.2⟩
  | .str _, h => by simp only [okD] at h; cases h
  | .dict _, h => by simp only [okD] at h; cases h
theorem okDs_all : ∀ ds : List PyData, okDs ds = true → PyData.canLayAll0 ds = true ∧ PyData.intsShortAll 13 ds = true ∧ PyData.showableAll ds = true
  | [], _ => ⟨rfl, rfl, rfl⟩
  | x :: xs, h => by
    simp only [okDs, Bool.and_eq_true] at h
    have a := okD_all x h.1
    have b := okDs_all xs h.2
    refine ⟨?_, ?_, ?_⟩
    · simp only [PyData.canLayAll0, a.1, b.1, Bool.and_self]
    · simp only [PyData.intsShortAll, a.2.1, b.2.1, Bool.and_self]
    · simp only [PyData.showableAll, a.2.2, b.2.2, Bool.and_self]
end
structure Rp (n w : Nat) (d : PyData) : Prop where
  ok : okD d = true
  dep : d.depth ≤ n
  wt : d.weight ≤ w
theorem okDs_of : ∀ {ds : List PyData}, (∀ d ∈ ds, okD d = true) → okDs ds = true
  | [], _ => rfl
  | d :: ds, h => by
    simp only [okDs, Bool.and_eq_true]
    exact ⟨h d (List.mem_cons_self ..), okDs_of fun x hx => h x (List.mem_cons_of_mem _ hx)⟩
theorem depthAll_le {B : Nat} : ∀ {ds : List PyData}, (∀ d ∈ ds, PyData.depth d ≤ B) → PyData.depthAll ds ≤ B
  | [], _ => Nat.zero_le _
  | d :: ds, h => by
    simp only [PyData.depthAll]
    exact Nat.max_le.mpr ⟨h d (List.mem_cons_self ..), depthAll_le fun x hx => h x (List.mem_cons_of_mem _ hx)⟩
theorem Rp.int {i : Int} (h : i.natAbs < 10 ^ 12) : Rp 0 41 (.int i) := by
  refine ⟨by simp only [okD, decide_eq_true_eq]; exact h, Nat.le_refl _, ?_⟩
  simp only [PyData.weight]
  split
  · decide
  · have : i.natAbs.log2 < 40 := by
      by_cases h0 : i.natAbs = 0
      · rw [h0]; decide
      · exact (Nat.log2_lt h0).mpr (Nat.lt_of_lt_of_le h (by decide))
    omega
theorem Rp.list {n w L : Nat} {ds : List PyData} (h : ∀ d ∈ ds, Rp n w d) (hl : ds.length ≤ L) : Rp (n + 1) (L * (w + 1)) (.list ds) := by
  refine ⟨?_, ?_, ?_⟩
  · simp only [okD]; exact okDs_of fun d hd => (h d hd).ok
  · simp only [PyData.depth]; exact Nat.succ_le_succ (depthAll_le fun d hd => (h d hd).dep)
  · simp only [PyData.weight]; exact Nat.le_trans (weightAll_le fun d hd => (h d hd).wt) (Nat.mul_le_mul_right _ hl)
theorem Rp.tuple {n w L : Nat} {ds : List PyData} (h : ∀ d ∈ ds, Rp n w d) (hl : ds.length ≤ L) : Rp (n + 1) (L * (w + 1)) (.tuple ds) := by
  refine ⟨?_, ?_, ?_⟩
  · simp only [okD]; exact okDs_of fun d hd => (h d hd).ok
  · simp only [PyData.depth]; exact Nat.succ_le_succ (depthAll_le fun d hd => (h d hd).dep)
  · simp only [PyData.weight]; exact Nat.le_trans (weightAll_le fun d hd => (h d hd).wt) (Nat.mul_le_mul_right _ hl)
theorem Rp.mono {n w n' w' : Nat} {d : PyData} (r : Rp n w d) (h1 : n ≤ n') (h2 : w ≤ w') : Rp n' w' d := ⟨r.ok, Nat.le_trans r.dep h1, Nat.le_trans r.wt h2⟩
theorem Rp.rpr {n w : Nat} {d : PyData} {h : IH} (r : Rp n w d) (h1 : n ≤ 64) (h2 : w ≤ 2 ^ 20) : MM.rpr d h = .ok (.str d.shown) h := by
  have a := okD_all d r.ok
  have hd : d.depth ≤ 64 := Nat.le_trans r.dep h1
  have hw : d.weight ≤ 2 ^ 20 := Nat.le_trans r.wt h2
  have hs : SeqAt.shaped d = true := by
    unfold SeqAt.shaped
    rw [a.1, decide_eq_true hd]; rfl
  have hl : PyData.layable0 d = true := by
    unfold PyData.layable0
    rw [a.1, decide_eq_true hd, decide_eq_true hw]; rfl
  have hz : d.shown.length ≤ sizeLine := Nat.le_trans (PyProof.Rows.shown_le13 hl a.2.1) (by decide)
  unfold MM.rpr
  rw [if_pos ⟨hs, a.2.2, hz⟩]
/-- a tuple of small numbers as data -/
abbrev dtup (xs : List Int) : PyData := .tuple (xs.map .int)
theorem toD_iz (h : IH) (n : Nat) : ∀ xs : List Int, optAll (toD h (n + 1)) (iz xs) = some (xs.map PyData.int)
  | [] => rfl
  | x :: xs => by
    have ih := toD_iz h n xs
    rw [show iz (x :: xs) = IV.int x :: iz xs from rfl, optAll, ih]
    rfl
theorem toD_tup (h : IH) (n : Nat) (xs : List Int) : toD h (n + 2) (.tup (iz xs)) = some (dtup xs) := by
  show (optAll (toD h (n + 1)) (iz xs)).map PyData.tuple = _
  rw [toD_iz]
  rfl
theorem rp_tup {xs : List Int} {L : Nat} (h : ∀ x ∈ xs, x.natAbs < 10 ^ 12) (hl : xs.length ≤ L) : Rp 1 (L * 42) (dtup xs) :=
  Rp.tuple (fun d hd => by
    obtain ⟨x, hx, rfl⟩ := List.mem_map.mp hd
    exact Rp.int (h x hx)) (by simpa using hl)
theorem rp_lst {xs : List Int} {L : Nat} (h : ∀ x ∈ xs, x.natAbs < 10 ^ 12) (hl : xs.length ≤ L) : Rp 1 (L * 42) (.list (xs.map .int)) :=
  Rp.list (fun d hd => by
    obtain ⟨x, hx, rfl⟩ := List.mem_map.mp hd
    exact Rp.int (h x hx)) (by simpa using hl)
theorem lLc_pure {own : List Nat} {it : ItM} {G : IH → Bool} {g : GM} {c : IEnv → IH → R Bool} {f : EM} {e : IEnv} {h : IH} {α β : Type} {mk : α → IV} {p : α → Bool} {v : α → β} {mv : β → IV} {xs : List α} (hit : it e h = .ok (xs.map mk, G) h) (hG : G h = true) (hz : xs.length ≤ 2 ^ 20)
    (st : ∀ x ∈ xs, ∃ e1, g (mk x) (wipeE e own) h = some (e1, h) ∧ c e1 h = .ok (p x) h ∧ (p x = true → f e1 h = .ok (mv (v x)) h)) : lLc own it g c f e h = .ok (((xs.filter p).map v).map mv) h := by
  unfold lLc
  rw [hit]
  dsimp only [R.bind]
  rw [if_pos (by rw [List.length_map]; exact Nat.le_trans hz (by decide)), lc_pure mk p v mv hG xs st]
theorem lLc_map {own : List Nat} {it : ItM} {G : IH → Bool} {g : GM} {f : EM} {e : IEnv} {h : IH} {α β : Type} {mk : α → IV} {v : α → β} {mv : β → IV} {xs : List α} (hit : it e h = .ok (xs.map mk, G) h) (hG : G h = true) (hz : xs.length ≤ 2 ^ 20)
    (st : ∀ x ∈ xs, ∃ e1, g (mk x) (wipeE e own) h = some (e1, h) ∧ f e1 h = .ok (mv (v x)) h) : lLc own it g tYesM f e h = .ok ((xs.map v).map mv) h := by
  unfold lLc
  rw [hit]
  dsimp only [R.bind]
  rw [if_pos (by rw [List.length_map]; exact Nat.le_trans hz (by decide)), lc_map mk v mv hG xs st]
theorem bls_of : ∀ bs : List Bool, blsOf (bs.map .bl) = some bs
  | [] => rfl
  | b :: bs => by
    have ih := bls_of bs
    unfold blsOf at ih ⊢
    rw [List.map_cons, optAll, ih]
theorem bls_run {g : List Bool → Bool} {f : IEnv → IH → R (List IV)} {e : IEnv} {h : IH} {bs : List Bool} (hf : f e h = .ok (bs.map .bl) h) : eBls g f e h = .ok (.bl (g bs)) h := by
  unfold eBls
  rw [hf]
  dsimp only [R.bind]
  rw [bls_of]
theorem it_rg1 {f : EM} {e : IEnv} {h h1 : IH} {n : Int} (hf : f e h = .ok (.int n) h1) (h0 : 0 ≤ n) (h2 : n ≤ 2 ^ 20) : iRg1 f e h = .ok (iz (rng n), fun _ => true) h1 := by
  unfold iRg1
  rw [hf]
  dsimp only [R.bind]
  rw [if_pos (rgOk_of h0 h2), lRange_rng]
theorem it_tup {f : EM} {e : IEnv} {h h1 : IH} {xs : List IV} (hf : f e h = .ok (.tup xs) h1) : iTup f e h = .ok (xs, fun _ => true) h1 := by
  unfold iTup
  rw [hf]
  rfl
def prs (xs : List Int) (i : Int) : IV := .tup [.int i, .int (geti xs i)]
theorem enumFrom_rng (xs : List Int) : enumFrom 0 (iz xs) = (rng xs.length).map (prs xs) := by
  refine List.ext_getElem? fun i => ?_
  by_cases hi : i < xs.length
  · rw [enumFrom_at (iz xs) 0 i (.int xs[i]) (by rw [List.getElem?_map, List.getElem?_eq_getElem hi]; rfl), List.getElem?_map, rng_get? (by simpa using hi)]
    unfold prs geti
    rw [Option.map_some, List.getD_eq_getElem?_getD, Int.toNat_natCast, List.getElem?_eq_getElem hi, Nat.zero_add]
    rfl
  · rw [List.getElem?_eq_none (by rw [enumFrom_len, List.length_map]; omega), List.getElem?_eq_none (by rw [List.length_map, rng_len]; omega)]
theorem it_enum {f : EM} {e : IEnv} {h h1 : IH} {xs : List Int} (hf : f e h = .ok (.tup (iz xs)) h1) : iEnumT f e h = .ok ((rng xs.length).map (prs xs), fun _ => true) h1 := by
  unfold iEnumT
  rw [hf]
  dsimp only [R.bind]
  rw [enumFrom_rng]
theorem geti_get {xs : List Int} {i : Nat} (hi : i < xs.length) : geti xs (i : Int) = xs[i] := by
  unfold geti
  rw [List.getD_eq_getElem?_getD, Int.toNat_natCast, List.getElem?_eq_getElem hi]
  rfl
theorem map_rng {α : Type} (xs : List Int) (f : Int → α) : (rng xs.length).map (fun i => f (geti xs i)) = xs.map f := by
  refine List.ext_getElem? fun i => ?_
  by_cases hi : i < xs.length
  · rw [List.getElem?_map, List.getElem?_map, rng_get? (by simpa using hi), List.getElem?_eq_getElem hi, Option.map_some, Option.map_some, geti_get hi]
  · rw [List.getElem?_eq_none (by rw [List.length_map, rng_len]; omega), List.getElem?_eq_none (by rw [List.length_map]; omega)]
theorem iz_flat : ∀ xs : List Int, (iz xs).all flat = true
  | [] => rfl
  | x :: xs => by rw [iz, List.map_cons, List.all_cons]; exact iz_flat xs
theorem memB_iz (x : Int) : ∀ xs : List Int, memB (.int x) (iz xs) = xs.contains x
  | [] => rfl
  | y :: ys => by
    have ih := memB_iz x ys
    unfold memB at ih ⊢
    rw [iz, List.map_cons, List.any_cons, List.contains_cons, ih]
    show ((y == x) || _) = _
    rw [Bool.beq_comm]
theorem cin_iz {x : Int} {xs : List Int} {h : IH} : cIn (.int x) (.tup (iz xs)) h = .ok (.bl (xs.contains x)) h := by
  unfold cIn inItems items
  dsimp only
  rw [if_pos ⟨rfl, iz_flat xs⟩, memB_iz]
theorem ceq_i {i j : Int} {h : IH} : cEq (.int i) (.int j) h = .ok (.bl (decide (i = j))) h := rfl
theorem cne_i {i j : Int} {h : IH} : cNe (.int i) (.int j) h = .ok (.bl (!decide (i = j))) h := rfl
theorem ceq_s {i j : Str} {h : IH} : cEq (.str i) (.str j) h = .ok (.bl (i == j)) h := rfl
theorem cne_s {i j : Str} {h : IH} : cNe (.str i) (.str j) h = .ok (.bl (!(i == j))) h := rfl
theorem sset_run {f : IEnv → IH → R (List IV)} {e : IEnv} {h : IH} {xs : List Int} (hf : f e h = .ok (iz xs) h) (hz : xs.length < 60) : lSortSet f e h = .ok (iz (sortU xs)) h := by
  unfold lSortSet
  rw [hf]
  dsimp only [R.bind]
  rw [intsOf_ints]
  dsimp only
  rw [if_pos hz]
theorem lints_run {g : List Int → List Int} {f : IEnv → IH → R (List IV)} {e : IEnv} {h : IH} {xs : List Int} (hf : f e h = .ok (iz xs) h) : lInts g f e h = .ok (iz (g xs)) h := by
  unfold lInts
  rw [hf]
  dsimp only [R.bind]
  rw [intsOf_ints]
/-- a chart of n places -/
structure Ch (n : Int) (xs : List Int) : Prop where
  len : (xs.length : Int) = n
  lo : 1 ≤ n
  hi : n ≤ 10
  mem : ∀ x ∈ xs, 0 ≤ x ∧ x < n
/-- a row of all places -/
structure Row (n : Int) (xs : List Int) : Prop where
  ch : Ch n xs
  nd : xs.Nodup
theorem Ch.get {n : Int} {xs : List Int} (c : Ch n xs) {i : Int} (h1 : 0 ≤ i) (h2 : i < n) : 0 ≤ geti xs i ∧ geti xs i < n := c.mem _ (geti_mem h1 (by rw [c.len]; exact h2))
theorem Ch.rng {n : Int} {xs : List Int} (c : Ch n xs) : MM.rng xs.length = MM.rng n := by rw [c.len]
theorem up_get {ys : List Int} (hs : ys.Pairwise (· < ·)) (h0 : ∀ y ∈ ys, 0 ≤ y) : ∀ (i : Nat) (hi : i < ys.length), (i : Int) ≤ ys[i]
  | 0, hi => h0 _ (List.getElem_mem _)
  | i + 1, hi => by
    have a := up_get hs h0 i (by omega)
    have b := List.pairwise_iff_getElem.mp hs i (i + 1) (by omega) hi (by omega)
    omega
theorem down_get {ys : List Int} {n : Int} (hs : ys.Pairwise (· < ·)) (h0 : ∀ y ∈ ys, y < n) : ∀ (k i : Nat) (hi : i < ys.length), i + k + 1 = ys.length → ys[i] + (k : Int) < n
  | 0, i, hi, e => by have := h0 _ (List.getElem_mem hi); omega
  | k + 1, i, hi, e => by
    have a := down_get hs h0 k (i + 1) (by omega) (by omega)
    have b := List.pairwise_iff_getElem.mp hs i (i + 1) hi (by omega) (by omega)
    omega
theorem full_sorted {n : Int} {ys : List Int} (hs : ys.Pairwise (· < ·)) (h0 : ∀ y ∈ ys, 0 ≤ y ∧ y < n) (hl : (ys.length : Int) = n) : ys = rng n := by
  refine List.ext_getElem? fun i => ?_
  by_cases hi : i < ys.length
  · rw [rng_get? (by omega), List.getElem?_eq_getElem hi]
    have a := up_get hs (fun y hy => (h0 y hy).1) i hi
    have b := down_get hs (fun y hy => (h0 y hy).2) (ys.length - 1 - i) i hi (by omega)
    congr 1
    omega
  · rw [List.getElem?_eq_none (by omega), List.getElem?_eq_none (by rw [rng_len]; omega)]
theorem sortU_perm {xs : List Int} (nd : xs.Nodup) : xs.Perm (sortU xs) := (List.perm_ext_iff_of_nodup nd ((sortU_sorted xs).imp fun h => Int.ne_of_lt h)).mpr fun z => (sortU_mem z xs).symm
/-- a row of all places has each place -/
theorem Row.perm {n : Int} {xs : List Int} (r : Row n xs) : xs.Perm (MM.rng n) := by
  have p := sortU_perm r.nd
  rw [full_sorted (sortU_sorted xs) (fun y hy => r.ch.mem y ((sortU_mem y xs).mp hy)) (by rw [← p.length_eq]; exact r.ch.len)] at p
  exact p
theorem Row.onto {n : Int} {xs : List Int} (r : Row n xs) {p : Int} (h1 : 0 ≤ p) (h2 : p < n) : ∃ i : Nat, i < n.toNat ∧ geti xs i = p := by
  have : p ∈ xs := r.perm.mem_iff.mpr (rng_mem.mpr ⟨h1, h2⟩)
  obtain ⟨i, hi, e⟩ := List.getElem_of_mem this
  exact ⟨i, by have := r.ch.len; omega, by rw [geti_get hi, e]⟩
theorem Row.inj {n : Int} {xs : List Int} (r : Row n xs) {i j : Nat} (h1 : i < n.toNat) (h2 : j < n.toNat) (e : geti xs i = geti xs j) : i = j := by
  have hl := r.ch.len
  rw [geti_get (by omega), geti_get (by omega)] at e
  exact (List.getElem_inj r.nd).mp e
theorem Ch.small {n : Int} {xs : List Int} (c : Ch n xs) : ∀ x ∈ xs, x.natAbs < 10 ^ 12 := fun x hx => by
  have := c.mem x hx
  have := c.hi
  have e : (10 : Nat) ^ 12 = 1000000000000 := by decide
  omega
theorem ceq_lists {h : IH} {k l : Nat} {xs : List Int} (h1 : h[k]? = some (.lst (iz xs))) (h2 : h[l]? = some (.lst (iz xs))) (hz : xs.length ≤ 1000) (hs : ∀ x ∈ xs, x.natAbs < 10 ^ 12) : cEq (.ref k) (.ref l) h = .ok (.bl true) h := by
  have r := rp_lst hs hz
  have a := okD_all _ r.ok
  have sh : SeqAt.shaped (PyData.list (xs.map .int)) = true := by
    unfold SeqAt.shaped
    rw [a.1, decide_eq_true (Nat.le_trans r.dep (by decide))]; rfl
  have e : ∀ j : Nat, h[j]? = some (.lst (iz xs)) → toD h 66 (.ref j) = some (PyData.list (xs.map .int)) := fun j q => by
    show (match h[j]? with
      | some (.lst ys) => (optAll (toD h 65) ys).map PyData.list
      | _ => none) = _
    rw [q]
    dsimp only
    rw [toD_iz]
    rfl
  show twoD (.ref k) (.ref l) h _ = _
  unfold twoD
  rw [e k h1, e l h2]
  dsimp only
  rw [if_pos ⟨sh, sh⟩, SeqAt.eqv_refl _ a.1]
theorem add_tt {xs ys : List IV} {h : IH} (hz : xs.length + ys.length ≤ 2 ^ 20) : bAdd (.tup xs) (.tup ys) h = .ok (.tup (xs ++ ys)) h := if_pos (Nat.le_trans hz (by decide))
theorem cut_lo {α : Type} {xs : List α} {p : Int} (h1 : 0 ≤ p) (h2 : p ≤ xs.length) : cut xs none (some p) = xs.take p.toNat := by
  unfold cut HT.sIx
  dsimp only
  rw [if_neg (by omega), List.drop_zero, Nat.sub_zero, Nat.min_eq_left (by omega)]
theorem cut_hi {α : Type} {xs : List α} {p : Int} (h1 : 0 ≤ p) (h2 : p ≤ xs.length) : cut xs (some p) none = xs.drop p.toNat := by
  unfold cut HT.sIx
  dsimp only
  rw [if_neg (by omega), Nat.min_eq_left (by omega), List.take_of_length_le (by rw [List.length_drop]; omega)]
theorem belows_set {n : Nat} {v : IV} (hv : below n v = true) : ∀ (xs : List IV) (i : Nat), belows n xs = true → belows n (xs.set i v) = true
  | [], _, _ => rfl
  | x :: xs, 0, q => by
    simp only [belows, Bool.and_eq_true, List.set_cons_zero] at q ⊢
    exact ⟨hv, q.2⟩
  | x :: xs, i + 1, q => by
    simp only [belows, Bool.and_eq_true, List.set_cons_succ] at q ⊢
    exact ⟨q.1, belows_set hv xs i q.2⟩
theorem belows_app {n : Nat} : ∀ {xs ys : List IV}, belows n xs = true → belows n ys = true → belows n (xs ++ ys) = true
  | [], _, _, q => q
  | x :: xs, ys, p, q => by
    simp only [belows, Bool.and_eq_true, List.cons_append] at p ⊢
    exact ⟨p.1, belows_app p.2 q⟩
theorem belows_rep {n k : Nat} {v : IV} (hv : below n v = true) : belows n (List.replicate k v) = true := by
  induction k with
  | zero => rfl
  | succ k ih => rw [List.replicate_succ]; simp only [belows, Bool.and_eq_true]; exact ⟨hv, ih⟩
/-- at the places of the row stand the first j values -/
def Wr (row : List Int) (v : Nat → IV) (j : Nat) (L : List IV) : Prop := ∀ i : Nat, i < j → L[(geti row i).toNat]? = some (v i)
theorem Wr.step {n : Int} {row : List Int} (r : Row n row) {v : Nat → IV} {j : Nat} {L : List IV} (hl : L.length = n.toNat) (hj : j < n.toNat) (q : Wr row v j L) : Wr row v (j + 1) (L.set (geti row j).toNat (v j)) := fun i hi => by
  have hn := r.ch.lo
  by_cases e : i = j
  · subst e
    have := r.ch.get (i := (i : Int)) (by omega) (by omega)
    rw [List.getElem?_set_self (by omega)]
  · have hij : i < j := by omega
    have a := r.ch.get (i := (i : Int)) (by omega) (by omega)
    have b := r.ch.get (i := (j : Int)) (by omega) (by omega)
    rw [List.getElem?_set_ne (fun z => e (r.inj (by omega) hj (by omega)))]
    exact q i hij
theorem Wr.uniq {n : Int} {row : List Int} (r : Row n row) {v : Nat → IV} {L L' : List IV} (hl : L.length = n.toNat) (hl' : L'.length = n.toNat) (q : Wr row v n.toNat L) (q' : Wr row v n.toNat L') : L = L' := by
  refine List.ext_getElem? fun p => ?_
  by_cases hp : p < n.toNat
  · obtain ⟨i, hi, e⟩ := r.onto (p := (p : Int)) (by omega) (by omega)
    have a := q i hi
    have b := q' i hi
    rw [e, Int.toNat_natCast] at a b
    rw [a, b]
  · rw [List.getElem?_eq_none (by omega), List.getElem?_eq_none (by omega)]
theorem rep_flat (n : Nat) (v : IV) : (List.replicate n [v]).flatten = List.replicate n v := by
  induction n with
  | zero => rfl
  | succ n ih => rw [List.replicate_succ, List.flatten_cons, ih, List.replicate_succ]; rfl
theorem lrep_run {f : IEnv → IH → R (List IV)} {g : EM} {e : IEnv} {h : IH} {v : IV} {n : Int} (hf : f e h = .ok [v] h) (hg : g e h = .ok (.int n) h) (h0 : 0 ≤ n) (h2 : n ≤ 2 ^ 20) : lRep f g e h = .ok (List.replicate n.toNat v) h := by
  unfold lRep
  rw [hf]
  dsimp only [R.bind]
  rw [hg]
  dsimp only
  rw [if_pos ⟨by omega, by omega, by simp only [List.length_cons, List.length_nil]; exact Nat.le_trans (by omega) (by decide : 2 ^ 20 ≤ sizeLine)⟩, rep_flat]
theorem set_map {n : Int} {xs : List Int} (c : Ch n xs) {p y : Int} (h1 : 0 ≤ p) (h2 : p < n) : (rng n).map (fun z => if z = p then y else geti xs z) = xs.set p.toNat y := by
  have hl := c.len
  refine List.ext_getElem? fun i => ?_
  by_cases hi : i < n.toNat
  · rw [List.getElem?_map, rng_get? hi, Option.map_some]
    by_cases e : i = p.toNat
    · subst e
      rw [List.getElem?_set_self (by omega), if_pos (by omega)]
    · rw [List.getElem?_set_ne (fun z => e z.symm), if_neg (by omega), geti_get (by omega), List.getElem?_eq_getElem (by omega)]
  · rw [List.getElem?_eq_none (by rw [List.length_map, rng_len]; omega), List.getElem?_eq_none (by rw [List.length_set]; omega)]
theorem eC_run {F : FM} {f : IEnv → IH → R (List IV)} {e : IEnv} {h h1 : IH} {vs : List IV} {r : R IV} (hf : f e h = .ok vs h1) (hF : F vs h1 = r) : eC F f e h = r := by
  unfold eC
  rw [hf]
  exact hF
theorem eCK_run {F : FM} {ix : List Nat} {g : IEnv → IH → R (List IV)} {e : IEnv} {h h1 : IH} {us vs : List IV} {r : R IV} (hg : g e h = .ok us h1) (hp : pick ix us = vs) (hF : F vs h1 = r) : eCK F ix aNil g e h = r := by
  unfold eCK aNil
  dsimp only [R.bind]
  rw [hg]
  dsimp only
  rw [List.nil_append, hp]
  exact hF
theorem optD2 {h : IH} {a b : IV} {x y : PyData} (h1 : toD h 66 a = some x) (h2 : toD h 66 b = some y) : optAll (toD h 66) [a, b] = some [x, y] := by
  rw [optAll, h1, optAll, h2]
  rfl
theorem optD3 {h : IH} {a b c : IV} {x y z : PyData} (h1 : toD h 66 a = some x) (h2 : toD h 66 b = some y) (h3 : toD h 66 c = some z) : optAll (toD h 66) [a, b, c] = some [x, y, z] := by
  rw [optAll, h1, optAll, h2, optAll, h3]
  rfl
theorem rp_two {a b : List Int} {L : Nat} (ha : ∀ x ∈ a, x.natAbs < 10 ^ 12) (hb : ∀ x ∈ b, x.natAbs < 10 ^ 12) (la : a.length ≤ L) (lb : b.length ≤ L) : Rp 2 (2 * (L * 42 + 1)) (.list [dtup a, dtup b]) :=
  Rp.list (fun d hd => by
    rcases List.mem_cons.mp hd with e | hd
    · rw [e]; exact rp_tup ha la
    · rw [List.mem_singleton] at hd; rw [hd]; exact rp_tup hb lb) (Nat.le_refl 2)
theorem rp_three {a b c : List Int} {L : Nat} (ha : ∀ x ∈ a, x.natAbs < 10 ^ 12) (hb : ∀ x ∈ b, x.natAbs < 10 ^ 12) (hc : ∀ x ∈ c, x.natAbs < 10 ^ 12) (la : a.length ≤ L) (lb : b.length ≤ L) (lc : c.length ≤ L) : Rp 2 (3 * (L * 42 + 1)) (.list [dtup a, dtup b, dtup c]) :=
  Rp.list (fun d hd => by
    rcases List.mem_cons.mp hd with e | hd
    · rw [e]; exact rp_tup ha la
    · rcases List.mem_cons.mp hd with e | hd
      · rw [e]; exact rp_tup hb lb
      · rw [List.mem_singleton] at hd; rw [hd]; exact rp_tup hc lc) (Nat.le_refl 3)
theorem eqv_nil (ls : List Int) : PyData.eqv (.list (ls.map .int)) (.list []) = ls.isEmpty := by
  cases ls with
  | nil => exact SeqAt.eqv_refl _ rfl
  | cons x xs => simp [PyData.eqv, PyData.eqvAll]
/-- left != [] -/
theorem aCons_run {f : EM} {g : IEnv → IH → R (List IV)} {e : IEnv} {h h1 h2 : IH} {v : IV} {vs : List IV} (q1 : f e h = .ok v h1) (q2 : g e h1 = .ok vs h2) : aCons f g e h = .ok (v :: vs) h2 := by
  unfold aCons
  rw [q1]
  dsimp only [R.bind]
  rw [q2]
theorem eNew_run {f : IEnv → IH → R (List IV)} {e : IEnv} {h h1 : IH} {xs : List IV} (q : f e h = .ok xs h1) : eNew f e h = .ok (.ref h1.length) (h1 ++ [.lst xs]) := by
  unfold eNew
  rw [q]
  rfl
theorem eMth_run {o : IV → List IV → IH → R IV} {f : EM} {g : IEnv → IH → R (List IV)} {e : IEnv} {h h1 h2 : IH} {k : Nat} {xs ys : List IV} {r : R IV} (q1 : f e h = .ok (.ref k) h1) (q2 : h1[k]? = some (.lst xs)) (q3 : g e h1 = .ok ys h2) (q4 : o (.ref k) ys h2 = r) : eMth o f g e h = r := by
  unfold eMth
  rw [q1]
  dsimp only [R.bind]
  rw [q2]
  dsimp only
  rw [q3]
  exact q4
theorem e2_run' {o : IV → IV → IH → R IV} {f g : EM} {e : IEnv} {h h1 h2 : IH} {x y : IV} {r : R IV} (q1 : f e h = .ok x h1) (q2 : g e h1 = .ok y h2) (q3 : o x y h2 = r) : e2 o f g e h = r := by
  unfold e2
  rw [q1]
  dsimp only [R.bind]
  rw [q2]
  exact q3
theorem toB_run' {f : EM} {e : IEnv} {h h1 : IH} {b : Bool} (q : f e h = .ok (.bl b) h1) : toB f e h = .ok b h1 := by
  unfold toB
  rw [q]
  rfl
theorem erase_map (xs : List Int) : ∀ i : Nat, (iz xs).eraseIdx i = iz (xs.eraseIdx i) := by
  induction xs with
  | nil => intro i; rfl
  | cons x xs ih =>
    intro i
    cases i with
    | zero => rfl
    | succ i =>
      show IV.int x :: (iz xs).eraseIdx i = IV.int x :: iz (xs.eraseIdx i)
      rw [ih]
theorem lst_run {f : IEnv → IH → R (List IV)} {e : IEnv} {h h1 : IH} {xs : List IV} (hf : f e h = .ok xs h1) (hz : xs.length ≤ 2 ^ 20) : lLst f e h = .ok xs h1 := by
  unfold lLst
  rw [hf]
  exact if_pos (Nat.le_trans hz (by decide))
theorem perm_erase : ∀ (l : List Int) (i : Nat) (hi : i < l.length), (l[i] :: l.eraseIdx i).Perm l
  | x :: xs, 0, _ => .refl _
  | x :: xs, i + 1, hi => by
    rw [List.getElem_cons_succ, List.eraseIdx_cons_succ]
    exact (List.Perm.swap ..).trans ((perm_erase xs i (by simpa using hi)).cons x)
theorem tup_run {f : IEnv → IH → R (List IV)} {e : IEnv} {h h1 : IH} {xs : List IV} (hf : f e h = .ok xs h1) (hz : xs.length ≤ 2 ^ 20) : eTup f e h = .ok (.tup xs) h1 := by
  unfold eTup
  rw [hf]
  exact if_pos (Nat.le_trans hz (by decide))
theorem tuple_run {f : IEnv → IH → R (List IV)} {e : IEnv} {h h1 : IH} {xs : List IV} (hf : f e h = .ok xs h1) : eTuple f e h = .ok (.tup xs) h1 := by
  unfold eTuple
  rw [hf]
  rfl
theorem qV_ref {f : EM} {e : IEnv} {h h1 : IH} {k : Nat} {xs : List IV} (hf : f e h = .ok (.ref k) h1) (hk : h1[k]? = some (.lst xs)) : qV f e h = .ok xs h1 := by
  unfold qV items
  rw [hf]
  dsimp only [R.bind]
  rw [hk]
/-- k steps on -/
def itn (xs : List Int) : Nat → Int → Int
  | 0, x => x
  | k + 1, x => itn xs k (geti xs x)
theorem itn_add (xs : List Int) (b : Nat) : ∀ (a : Nat) (x : Int), itn xs (a + b) x = itn xs b (itn xs a x)
  | 0, x => by rw [Nat.zero_add]; rfl
  | a + 1, x => by
    rw [show a + 1 + b = (a + b) + 1 by omega]
    show itn xs (a + b) (geti xs x) = _
    rw [itn_add xs b a]
    rfl
theorem itn_succ (xs : List Int) (k : Nat) (x : Int) : itn xs (k + 1) x = geti xs (itn xs k x) := by rw [itn_add]; rfl
theorem Ch.itn {n : Int} {xs : List Int} (c : Ch n xs) : ∀ (k : Nat) {x : Int}, 0 ≤ x → x < n → 0 ≤ MM.itn xs k x ∧ MM.itn xs k x < n
  | 0, x, h1, h2 => ⟨h1, h2⟩
  | k + 1, x, h1, h2 => by
    have a := c.get h1 h2
    exact c.itn k a.1 a.2
def tab (xs : List Int) (n : Int) (k : Nat) : List Int := (rng n).map (itn xs k)
theorem tab_ch {n : Int} {xs : List Int} (c : Ch n xs) (k : Nat) : Ch n (tab xs n k) := by
  have := c.lo
  refine ⟨by unfold tab; rw [List.length_map, rng_len]; omega, c.lo, c.hi, fun x hx => ?_⟩
  obtain ⟨z, hz, rfl⟩ := List.mem_map.mp hx
  have hm := rng_mem.mp hz
  exact c.itn k hm.1 hm.2
theorem geti_map {n : Int} (f : Int → Int) {i : Int} (h1 : 0 ≤ i) (h2 : i < n) : geti ((rng n).map f) i = f i := by
  unfold geti
  rw [List.getD_eq_getElem?_getD, List.getElem?_map, rng_get? (by omega)]
  show f (i.toNat : Int) = _
  congr 1
  omega
theorem tab_get {n : Int} {xs : List Int} (k : Nat) {i : Int} (h1 : 0 ≤ i) (h2 : i < n) : geti (tab xs n k) i = itn xs k i := geti_map _ h1 h2
theorem tab_behind {n : Int} {xs : List Int} (c : Ch n xs) (a b : Nat) : (tab xs n a).map (geti (tab xs n b)) = tab xs n (a + b) := by
  unfold tab
  rw [List.map_map]
  refine List.map_congr_left fun i hi => ?_
  have hm := rng_mem.mp hi
  have hi := c.itn a hm.1 hm.2
  show geti ((rng n).map (itn xs b)) (itn xs a i) = _
  rw [geti_map _ hi.1 hi.2, itn_add]
theorem tab_one {n : Int} {xs : List Int} (c : Ch n xs) : tab xs n 1 = xs := by
  have := map_rng xs (fun x => x)
  rw [c.len, List.map_id'] at this
  exact this
theorem tab_zero (xs : List Int) (n : Int) : tab xs n 0 = rng n := List.map_id' _
theorem tab_next {n : Int} {xs : List Int} (k : Nat) : (tab xs n k).map (geti xs) = tab xs n (k + 1) := by
  unfold tab
  rw [List.map_map]
  exact List.map_congr_left fun i _ => (itn_succ xs k i).symm
/-- what is walked from p on until it comes again -/
structure IsPath (xs : List Int) (p : Int) (L : List Int) : Prop where
  ne : 0 < L.length
  get : ∀ k (h : k < L.length), L[k] = itn xs k p
  nd : L.Nodup
  cl : itn xs L.length p ∈ L
theorem IsPath.short {xs : List Int} {p : Int} {L L' : List Int} (a : IsPath xs p L) (b : IsPath xs p L') : ¬ L.length < L'.length := fun hl => by
  obtain ⟨k, hk, e⟩ := List.getElem_of_mem a.cl
  have e1 : L'[L.length]'hl = L'[k]'(by omega) := by rw [b.get _ hl, b.get k (by omega), ← e, a.get k hk]
  have := (List.getElem_inj b.nd).mp e1
  omega
theorem IsPath.uniq {xs : List Int} {p : Int} {L L' : List Int} (a : IsPath xs p L) (b : IsPath xs p L') : L = L' := by
  have h1 := a.short b
  have h2 := b.short a
  refine List.ext_getElem (by omega) fun k q1 q2 => ?_
  rw [a.get k q1, b.get k q2]
theorem nodup_len {n : Int} {L : List Int} (nd : L.Nodup) (h : ∀ x ∈ L, 0 ≤ x ∧ x < n) : L.length ≤ n.toNat := by
  have p := sortU_perm nd
  have hm : ∀ y ∈ sortU L, 0 ≤ y ∧ y < n := fun y hy => h y ((sortU_mem y L).mp hy)
  rw [p.length_eq]
  by_cases h0 : (sortU L).length = 0
  · omega
  · have a := up_get (sortU_sorted L) (fun y hy => (hm y hy).1) ((sortU L).length - 1) (by omega)
    have b := (hm _ (List.getElem_mem (by omega : (sortU L).length - 1 < (sortU L).length))).2
    omega
theorem itn_period {xs : List Int} {p : Int} {at_ c : Nat} (e : itn xs (at_ + c) p = itn xs at_ p) (r : Nat) : ∀ q : Nat, itn xs (at_ + (r + q * c)) p = itn xs (at_ + r) p
  | 0 => by rw [Nat.zero_mul, Nat.add_zero]
  | q + 1 => by
    have ih := itn_period e r q
    rw [show at_ + (r + (q + 1) * c) = at_ + c + (r + q * c) by rw [Nat.add_mul, Nat.one_mul]; omega, itn_add, e, ← itn_add, ih]
theorem IsPath.far {xs : List Int} {p : Int} {L : List Int} (a : IsPath xs p L) {at_ : Nat} (h1 : at_ < L.length) (h2 : L[at_] = itn xs L.length p) {N : Nat} (hN : L.length ≤ N) : itn xs N p = itn xs (at_ + (N - at_) % (L.length - at_)) p := by
  have e : itn xs (at_ + (L.length - at_)) p = itn xs at_ p := by
    rw [show at_ + (L.length - at_) = L.length by omega, ← h2, a.get at_ h1]
  have := itn_period e ((N - at_) % (L.length - at_)) ((N - at_) / (L.length - at_))
  rw [Nat.mul_comm, Nat.mod_add_div, show at_ + (N - at_) = N by omega] at this
  exact this
theorem ix_last {h : IH} {k : Nat} {L : List Int} (hk : h[k]? = some (.lst (iz L))) (hn : 0 < L.length) : bIx (.ref k) (.int (-1)) h = .ok (.int (L[L.length - 1]'(by omega))) h := by
  have e : atI (iz L) (-1) = some (.int (L[L.length - 1]'(by omega))) := by
    unfold atI ixN
    rw [if_neg (by decide), if_pos (by rw [List.length_map]; omega)]
    show (iz L)[((-1 : Int) + ((iz L).length : Nat)).toNat]? = _
    rw [List.length_map, show ((-1 : Int) + (L.length : Nat)).toNat = L.length - 1 by omega, List.getElem?_map, List.getElem?_eq_getElem (by omega)]
    rfl
  unfold bIx items
  dsimp only
  rw [hk]
  dsimp only
  rw [e]
theorem cnin_ref {h : IH} {k : Nat} {L : List Int} {v : Int} (hk : h[k]? = some (.lst (iz L))) : cNin (.int v) (.ref k) h = .ok (.bl (!L.contains v)) h := by
  unfold cNin inItems items
  dsimp only
  rw [hk]
  dsimp only
  rw [if_pos ⟨rfl, iz_flat L⟩, memB_iz]
theorem idx_iz {v : Int} : ∀ {L : List Int}, v ∈ L → ∃ (j : Nat) (hj : j < L.length), idxOf (.int v) (iz L) = some j ∧ L[j] = v
  | x :: xs, h => by
    by_cases e : x = v
    · subst e
      refine ⟨0, by simp, ?_, rfl⟩
      show (if eqF (.int x) (.int x) = true then some 0 else _) = _
      rw [if_pos (by show (x == x) = true; simp)]
    · have hm : v ∈ xs := by
        rcases List.mem_cons.mp h with q | q
        · exact absurd q.symm e
        · exact q
      obtain ⟨j, hj, q1, q2⟩ := idx_iz hm
      refine ⟨j + 1, by simpa using hj, ?_, by rw [List.getElem_cons_succ]; exact q2⟩
      show (if eqF (.int x) (.int v) = true then some 0 else (idxOf (.int v) (iz xs)).map (· + 1)) = _
      rw [if_neg (by show ¬ (x == v) = true; simpa using e), q1]
      rfl
theorem urepr_tup {h : IH} {xs : List Int} (hs : ∀ x ∈ xs, x.natAbs < 10 ^ 12) (hz : xs.length ≤ 1000) : uRepr (.tup (iz xs)) h = .ok (.str (dtup xs).shown) h := by
  show (match toD h 66 (.tup (iz xs)) with
    | some d => MM.rpr d h
    | none => .bad) = _
  rw [toD_tup h 64 xs]
  exact (rp_tup hs hz).rpr (by decide) (by decide)
theorem urepr_ref {h : IH} {k : Nat} {xs : List Int} (hk : h[k]? = some (.lst (iz xs))) (hs : ∀ x ∈ xs, x.natAbs < 10 ^ 12) (hz : xs.length ≤ 1000) : uRepr (.ref k) h = .ok (.str (PyData.list (xs.map .int)).shown) h := by
  have td : toD h 66 (.ref k) = some (PyData.list (xs.map .int)) := by
    show (match h[k]? with
      | some (.lst ys) => (optAll (toD h 65) ys).map PyData.list
      | _ => none) = _
    rw [hk]
    dsimp only
    rw [toD_iz]
    rfl
  show (match toD h 66 (.ref k) with
    | some d => MM.rpr d h
    | none => .bad) = _
  rw [td]
  exact (rp_lst hs hz).rpr (by decide) (by decide)
/-- x comes again -/
def OnR (xs : List Int) (x : Int) : Prop := ∃ k : Nat, 0 < k ∧ itn xs k x = x
theorem itn_comm (xs : List Int) (a b : Nat) (x : Int) : itn xs a (itn xs b x) = itn xs b (itn xs a x) := by rw [← itn_add, ← itn_add, Nat.add_comm]
theorem itn_mul {xs : List Int} {k : Nat} {x : Int} (e : itn xs k x = x) : ∀ m : Nat, itn xs (m * k) x = x
  | 0 => by rw [Nat.zero_mul]; rfl
  | m + 1 => by rw [Nat.add_mul, Nat.one_mul, itn_add, itn_mul e m, e]
theorem OnR.step {xs : List Int} {x : Int} (o : OnR xs x) (j : Nat) : OnR xs (itn xs j x) := by
  obtain ⟨k, hk, e⟩ := o
  exact ⟨k, hk, by rw [itn_comm, e]⟩
theorem OnR.back {xs : List Int} {x : Int} (o : OnR xs x) (j : Nat) : ∃ i, itn xs i (itn xs j x) = x := by
  obtain ⟨k, hk, e⟩ := o
  refine ⟨j * k - j, ?_⟩
  have h1 : j ≤ j * k := Nat.le_mul_of_pos_right j hk
  rw [← itn_add, show j + (j * k - j) = j * k by omega, itn_mul e]
/-- the closing place -/
theorem IsPath.at_ {xs : List Int} {p : Int} {L : List Int} (a : IsPath xs p L) : ∃ (j : Nat) (h : j < L.length), L[j] = itn xs L.length p := by
  obtain ⟨j, hj, e⟩ := List.getElem_of_mem a.cl
  exact ⟨j, hj, e⟩
theorem IsPath.zero {xs : List Int} {p : Int} {L : List Int} (a : IsPath xs p L) : L[0]'a.ne = p := a.get 0 a.ne
/-- a ring's path closes at its first place -/
theorem IsPath.close {xs : List Int} {p : Int} {L : List Int} (a : IsPath xs p L) (o : OnR xs p) : itn xs L.length p = p := by
  obtain ⟨j, hj, e⟩ := a.at_
  obtain ⟨k, hk, ek⟩ := o
  have h1 : L.length ≤ L.length * k := Nat.le_mul_of_pos_right _ hk
  have f := a.far hj e (N := L.length * k) h1
  rw [itn_mul ek] at f
  have hr : (L.length * k - j) % (L.length - j) < L.length - j := Nat.mod_lt _ (by omega)
  have q : L[j + (L.length * k - j) % (L.length - j)]'(by omega) = L[0]'a.ne := by rw [a.get _ (by omega), a.zero, ← f]
  have q2 := (List.getElem_inj a.nd).mp q
  have j0 : j = 0 := by omega
  subst j0
  rw [← e, a.zero]
theorem IsPath.mem {xs : List Int} {p : Int} {L : List Int} (a : IsPath xs p L) (o : OnR xs p) {y : Int} : y ∈ L ↔ ∃ k, itn xs k p = y := by
  constructor
  · intro h
    obtain ⟨j, hj, e⟩ := List.getElem_of_mem h
    exact ⟨j, by rw [← e, a.get j hj]⟩
  · rintro ⟨k, rfl⟩
    by_cases hk : k < L.length
    · rw [← a.get k hk]; exact List.getElem_mem hk
    · have c := a.close o
      have f := a.far (at_ := 0) a.ne (by rw [a.zero, c]) (N := k) (by omega)
      rw [f]
      have : (k - 0) % (L.length - 0) < L.length := by rw [Nat.sub_zero]; exact Nat.mod_lt _ a.ne
      rw [Nat.zero_add, ← a.get _ this]
      exact List.getElem_mem _
theorem IsPath.onR_of {xs : List Int} {p : Int} {L : List Int} (a : IsPath xs p L) {j : Nat} (hj : j < L.length) (e : L[j] = itn xs L.length p) {i : Nat} (hi : j ≤ i) (hi2 : i < L.length) : OnR xs L[i] := by
  refine ⟨L.length - j, by omega, ?_⟩
  rw [a.get i hi2, ← itn_add, show i + (L.length - j) = L.length + (i - j) by omega, itn_add, ← e, a.get j hj, ← itn_add, show j + (i - j) = i by omega]
/-- going round from another place of the ring -/
theorem IsPath.turn {xs : List Int} {p : Int} {L : List Int} (a : IsPath xs p L) (o : OnR xs p) {t : Nat} (ht : t < L.length) : IsPath xs L[t] (L.drop t ++ L.take t) := by
  have c := a.close o
  have hl : (L.drop t ++ L.take t).length = L.length := by rw [List.length_append, List.length_drop, List.length_take]; omega
  have e1 : itn xs (L.length - t) L[t] = p := by rw [a.get t ht, ← itn_add, show t + (L.length - t) = L.length by omega, c]
  have cl : itn xs L.length L[t] = L[t] := by rw [a.get t ht, itn_comm, c]
  refine ⟨by rw [hl]; exact a.ne, fun k hk => ?_, ?_, ?_⟩
  · rw [hl] at hk
    by_cases h : k < L.length - t
    · rw [List.getElem_append_left (by rw [List.length_drop]; exact h), List.getElem_drop, a.get _ (by omega), a.get t ht, ← itn_add]
    · rw [List.getElem_append_right (by rw [List.length_drop]; omega), List.getElem_take, a.get _ (by rw [List.length_drop]; omega), List.length_drop]
      have : itn xs k L[t] = itn xs (k - (L.length - t)) p := by
        conv => lhs; rw [show k = (L.length - t) + (k - (L.length - t)) by omega, itn_add, e1]
      exact this.symm
  · refine (List.Perm.nodup_iff ?_).mpr a.nd
    exact List.perm_append_comm.trans (by rw [List.take_append_drop])
  · rw [hl, cl]
    exact List.mem_append_left _ (by
      rw [List.mem_iff_getElem]
      exact ⟨0, by rw [List.length_drop]; omega, by rw [List.getElem_drop]; simp only [Nat.add_zero]⟩)
/-- the least of a path -/
theorem minL_get {L : List Int} (h : 0 < L.length) : ∃ m, minL L = some m ∧ m ∈ L ∧ ∀ y ∈ L, m ≤ y := by
  cases L with
  | nil => simp at h
  | cons x xs =>
    have q := minL_fold xs x
    exact ⟨_, rfl, q.1, q.2⟩
open Classical in
/-- the path from p -/
noncomputable def pth (xs : List Int) (p : Int) : List Int := if h : ∃ L, IsPath xs p L then Classical.choose h else []
theorem pth_is {xs : List Int} {p : Int} {L : List Int} (a : IsPath xs p L) : pth xs p = L := by
  have h : ∃ L, IsPath xs p L := ⟨L, a⟩
  unfold pth
  rw [dif_pos h]
  exact (Classical.choose_spec h).uniq a
/-- all paths of a chart are there -/
structure Pths (n : Int) (xs : List Int) : Prop where
  ch : Ch n xs
  is : ∀ p, 0 ≤ p → p < n → IsPath xs p (pth xs p)
  rg : ∀ p, 0 ≤ p → p < n → ∀ y ∈ pth xs p, 0 ≤ y ∧ y < n
section
variable {n : Int} {xs : List Int} (P : Pths n xs)
include P
theorem Pths.sym {x y : Int} (x0 : 0 ≤ x) (x1 : x < n) (o : OnR xs x) (h : y ∈ pth xs x) : OnR xs y ∧ x ∈ pth xs y := by
  obtain ⟨k, rfl⟩ := ((P.is x x0 x1).mem o).mp h
  have r := P.rg x x0 x1 _ h
  have oy := o.step k
  exact ⟨oy, ((P.is _ r.1 r.2).mem oy).mpr (o.back k)⟩
theorem Pths.trans {x y z : Int} (x0 : 0 ≤ x) (x1 : x < n) (o : OnR xs x) (h : y ∈ pth xs x) (h2 : z ∈ pth xs y) : z ∈ pth xs x := by
  have r := P.rg x x0 x1 _ h
  obtain ⟨k, e⟩ := ((P.is x x0 x1).mem o).mp h
  have oy := (P.sym x0 x1 o h).1
  obtain ⟨l, e2⟩ := ((P.is y r.1 r.2).mem oy).mp h2
  exact ((P.is x x0 x1).mem o).mpr ⟨k + l, by rw [itn_add, e, e2]⟩
theorem Pths.len {x : Int} (x0 : 0 ≤ x) (x1 : x < n) : (pth xs x).length ≤ n.toNat := nodup_len (P.is x x0 x1).nd (P.rg x x0 x1)
/-- what all come to -/
theorem Pths.far_iff {z : Int} (z0 : 0 ≤ z) (z1 : z < n) : z ∈ tab xs n n.toNat ↔ OnR xs z := by
  unfold tab
  rw [List.mem_map]
  constructor
  · rintro ⟨y, hy, rfl⟩
    have hm := rng_mem.mp hy
    have a := P.is y hm.1 hm.2
    obtain ⟨j, hj, e⟩ := a.at_
    have hl := P.len hm.1 hm.2
    have f := a.far hj e (N := n.toNat) hl
    have hr : (n.toNat - j) % ((pth xs y).length - j) < (pth xs y).length - j := Nat.mod_lt _ (by omega)
    generalize (n.toNat - j) % ((pth xs y).length - j) = r at f hr
    rw [f, ← a.get _ (by omega : j + r < (pth xs y).length)]
    exact a.onR_of hj e (Nat.le_add_right _ _) (by omega)
  · rintro ⟨k, hk, e⟩
    have h1 : n.toNat ≤ n.toNat * k := Nat.le_mul_of_pos_right _ hk
    have hz := P.ch.itn (n.toNat * k - n.toNat) z0 z1
    refine ⟨itn xs (n.toNat * k - n.toNat) z, rng_mem.mpr hz, ?_⟩
    rw [← itn_add, show n.toNat * k - n.toNat + n.toNat = n.toNat * k by omega, itn_mul e]
end
open Classical in
/-- the places on rings -/
noncomputable def onr (xs : List Int) (n : Int) : List Int := (rng n).filter fun x => decide (OnR xs x)
open Classical in
theorem onr_mem {xs : List Int} {n x : Int} : x ∈ onr xs n ↔ (0 ≤ x ∧ x < n) ∧ OnR xs x := by
  unfold onr
  rw [List.mem_filter, rng_mem, decide_eq_true_eq]
theorem onr_sorted (xs : List Int) (n : Int) : (onr xs n).Pairwise (· < ·) := (rng_sorted n).filter _
theorem Pths.sortU {n : Int} {xs : List Int} (P : Pths n xs) : MM.sortU (tab xs n n.toNat) = onr xs n := sortU_of (onr_sorted xs n) fun z => by
  rw [onr_mem]
  constructor
  · rintro ⟨⟨h1, h2⟩, o⟩
    exact (P.far_iff h1 h2).mpr o
  · intro h
    have hm := (tab_ch P.ch n.toNat).mem z h
    exact ⟨hm, (P.far_iff hm.1 hm.2).mp h⟩
/-- first of its ring -/
def Fst (xs : List Int) (x : Int) : Prop := OnR xs x ∧ ∀ y ∈ pth xs x, x ≤ y
open Classical in
noncomputable def fsts (xs : List Int) (l : List Int) : List Int := l.filter fun x => decide (Fst xs x)
/-- the rings, each from its least place -/
noncomputable def rngs (xs : List Int) (n : Int) : List (List Int) := (fsts xs (rng n)).map (pth xs)
open Classical in
theorem fsts_onr (xs : List Int) (n : Int) : fsts xs (onr xs n) = fsts xs (rng n) := by
  unfold fsts onr
  rw [List.filter_filter]
  refine List.filter_congr fun x _ => ?_
  by_cases h : Fst xs x
  · rw [decide_eq_true h, decide_eq_true h.1]; rfl
  · rw [decide_eq_false h]; rfl
open Classical in
theorem fsts_mem {xs l : List Int} {x : Int} : x ∈ fsts xs l ↔ x ∈ l ∧ Fst xs x := by
  unfold fsts
  rw [List.mem_filter, decide_eq_true_eq]
section
variable {n : Int} {xs : List Int} (P : Pths n xs)
include P
/-- each ring place has the first one of its ring -/
theorem Pths.fst {x : Int} (x0 : 0 ≤ x) (x1 : x < n) (o : OnR xs x) : ∃ (m : Int) (t : Nat) (ht : t < (pth xs x).length), minL (pth xs x) = some m ∧ (pth xs x)[t] = m ∧ 0 ≤ m ∧ m < n ∧ m ≤ x ∧ Fst xs m ∧ x ∈ pth xs m ∧ pth xs m = (pth xs x).drop t ++ (pth xs x).take t := by
  have a := P.is x x0 x1
  obtain ⟨m, e1, hm, hle⟩ := minL_get a.ne
  obtain ⟨t, ht, et⟩ := List.getElem_of_mem hm
  have r := P.rg x x0 x1 m hm
  have s := P.sym x0 x1 o hm
  have tu := a.turn o ht
  rw [et] at tu
  have xin : x ∈ pth xs x := by have := List.getElem_mem a.ne; rw [a.zero] at this; exact this
  exact ⟨m, t, ht, e1, et, r.1, r.2, hle x xin, ⟨s.1, fun y hy => hle y (P.trans x0 x1 o hm hy)⟩, s.2, pth_is tu⟩
/-- a place stands in an earlier ring exactly if it is not the first of its own -/
theorem Pths.seen {x : Int} (x0 : 0 ≤ x) (x1 : x < n) (o : OnR xs x) : Fst xs x ↔ ¬ ∃ z, 0 ≤ z ∧ z < x ∧ Fst xs z ∧ x ∈ pth xs z := by
  constructor
  · rintro ⟨_, h⟩ ⟨z, z0, z1, fz, hz⟩
    have s := P.sym z0 (by omega) fz.1 hz
    have := h z s.2
    omega
  · intro h
    obtain ⟨m, t, ht, e1, et, m0, m1, mx, fm, xm, _⟩ := P.fst x0 x1 o
    by_cases e : m = x
    · rw [← e]; exact fm
    · exact absurd ⟨m, m0, by omega, fm, xm⟩ h
theorem Pths.in_ring {x : Int} (x0 : 0 ≤ x) (x1 : x < n) : OnR xs x ↔ ∃ r ∈ rngs xs n, x ∈ r := by
  unfold rngs
  constructor
  · intro o
    obtain ⟨m, t, ht, e1, et, m0, m1, mx, fm, xm, _⟩ := P.fst x0 x1 o
    exact ⟨pth xs m, List.mem_map.mpr ⟨m, fsts_mem.mpr ⟨rng_mem.mpr ⟨m0, m1⟩, fm⟩, rfl⟩, xm⟩
  · rintro ⟨r, hr, hx⟩
    obtain ⟨m, hm, rfl⟩ := List.mem_map.mp hr
    obtain ⟨h1, h2⟩ := fsts_mem.mp hm
    have h3 := rng_mem.mp h1
    exact (P.sym h3.1 h3.2 h2.1 hx).1
/-- just one ring has it -/
theorem Pths.own {x m : Int} (x0 : 0 ≤ x) (x1 : x < n) (o : OnR xs x) (m0 : 0 ≤ m) (m1 : m < n) (fm : Fst xs m) (xm : x ∈ pth xs m) : (rngs xs n).filter (fun r => r.contains x) = [pth xs m] := by
  unfold rngs
  rw [List.filter_map]
  have key : ∀ z, z ∈ fsts xs (rng n) → (x ∈ pth xs z ↔ z = m) := fun z hz => by
    obtain ⟨h1, h2⟩ := fsts_mem.mp hz
    have h3 := rng_mem.mp h1
    constructor
    · intro h
      have a := P.sym h3.1 h3.2 h2.1 h
      have b := P.sym m0 m1 fm.1 xm
      have q1 := h2.2 m (P.trans h3.1 h3.2 h2.1 h b.2)
      have q2 := fm.2 z (P.trans m0 m1 fm.1 xm a.2)
      omega
    · rintro rfl; exact xm
  have e : (fsts xs (rng n)).filter ((fun r => r.contains x) ∘ pth xs) = [m] := by
    have hs : (fsts xs (rng n)).Pairwise (· < ·) := (rng_sorted n).filter _
    have hm : m ∈ fsts xs (rng n) := fsts_mem.mpr ⟨rng_mem.mpr ⟨m0, m1⟩, fm⟩
    have nd : ((fsts xs (rng n)).filter ((fun r => r.contains x) ∘ pth xs)).Nodup := (hs.imp fun h => Int.ne_of_lt h).filter _
    have pm : ∀ z, z ∈ (fsts xs (rng n)).filter ((fun r => r.contains x) ∘ pth xs) ↔ z ∈ [m] := fun z => by
      rw [List.mem_filter, List.mem_singleton]
      show z ∈ fsts xs (rng n) ∧ (pth xs z).contains x = true ↔ _
      rw [List.contains_iff_mem]
      exact ⟨fun ⟨h1, h2⟩ => (key z h1).mp h2, fun h => ⟨by rw [h]; exact hm, by rw [h]; exact xm⟩⟩
    exact List.Perm.eq_singleton ((List.perm_ext_iff_of_nodup nd (by simp)).mpr pm)
  rw [e]
  rfl
/-- where its way comes upon a ring -/
theorem Pths.entry {x : Int} (x0 : 0 ≤ x) (x1 : x < n) : ∃ (e : Int) (r : List Int), (pth xs x).filter (fun y => (onr xs n).contains y) = e :: r ∧ 0 ≤ e ∧ e < n ∧ OnR xs e ∧ e ∈ pth xs x ∧ ∀ (l : Int), l = (pth xs x)[(pth xs x).length - 1]'(by have := (P.is x x0 x1).ne; omega) → ∀ z, 0 ≤ z → z < n → OnR xs z → (e ∈ pth xs z ↔ l ∈ pth xs z) := by
  have a := P.is x x0 x1
  obtain ⟨j, hj, ej⟩ := a.at_
  have oj := a.onR_of hj ej (Nat.le_refl _) hj
  have rj := P.rg x x0 x1 _ (List.getElem_mem hj)
  cases hf : (pth xs x).filter (fun y => (onr xs n).contains y) with
  | nil =>
    exfalso
    have : (pth xs x)[j] ∈ (pth xs x).filter (fun y => (onr xs n).contains y) := List.mem_filter.mpr ⟨List.getElem_mem hj, List.contains_iff_mem.mpr (onr_mem.mpr ⟨rj, oj⟩)⟩
    rw [hf] at this
    cases this
  | cons e r =>
    have he : e ∈ (pth xs x).filter (fun y => (onr xs n).contains y) := by rw [hf]; exact List.mem_cons_self ..
    obtain ⟨h1, h2⟩ := List.mem_filter.mp he
    obtain ⟨⟨e0, e1⟩, oe⟩ := onr_mem.mp (List.contains_iff_mem.mp h2)
    refine ⟨e, r, rfl, e0, e1, oe, h1, ?_⟩
    rintro l rfl z z0 z1 oz
    obtain ⟨i, hi, ei⟩ := List.getElem_of_mem h1
    have lm : (pth xs x)[(pth xs x).length - 1]'(by omega) ∈ pth xs e := by
      refine ((P.is e e0 e1).mem oe).mpr ⟨(pth xs x).length - 1 - i, ?_⟩
      rw [← ei, a.get i hi, ← itn_add, a.get _ (by omega)]
      congr 1
      omega
    constructor
    · intro h
      exact P.trans z0 z1 oz h lm
    · intro h
      exact P.trans z0 z1 oz h (P.sym e0 e1 oe lm).2
end
end MM
/-! R4: operations on told values -/
namespace MM
open PySem L2
section
variable {h : IH} {i j : Int} {a b : Str} {xs ys : List IV} {x y : IV} {p q : Bool}
theorem szOk {n : Nat} (h : n ≤ 2 ^ 20) : n ≤ sizeLine := Nat.le_trans h (by decide)
theorem o_add_i : addK (.int i) (.int j) h = .ok (.int (i + j)) h := rfl
theorem o_add_s : addK (.str a) (.str b) h = if a.length + b.length ≤ sizeLine then .ok (.str (a ++ b)) h else .bad := rfl
theorem o_add_t : addK (.tup xs) (.tup ys) h = if xs.length + ys.length ≤ sizeLine then .ok (.tup (xs ++ ys)) h else .bad := rfl
theorem o_add_f : addK (.fz xs) (.fz ys) h = (if xs.length + ys.length ≤ sizeLine then .ok (xs ++ ys) h else .bad : R (List IV)).bind fun xs h1 => .ok (.fz xs) h1 := rfl
theorem o_cat_f : catK (.fz xs) (.fz ys) h = if xs.length + ys.length ≤ sizeLine then .ok (xs ++ ys) h else .bad := rfl
theorem o_sub : bSub (.int i) (.int j) h = .ok (.int (i - j)) h := rfl
theorem o_mul : bMul (.int i) (.int j) h = if ((-(2 ^ 64) < i ∧ i < 2 ^ 64) ∨ (-(2 ^ 64) < j ∧ j < 2 ^ 64)) ∨ i.natAbs.log2 + j.natAbs.log2 < 1000000 then .ok (.int (i * j)) h else .bad := rfl
theorem o_div : bDiv (.int i) (.int j) h = if 0 < j ∧ j.natAbs.log2 < 9000 then .ok (.int (i / j)) h else .bad := rfl
theorem o_mod : bMod (.int i) (.int j) h = if 0 < j then .ok (.int (i % j)) h else .bad := rfl
theorem o_pow : bPow (.int i) (.int j) h = if 0 ≤ j ∧ j ≤ 1000000 ∧ i.natAbs < 2 ^ 64 then .ok (.int (i ^ j.toNat)) h else .bad := rfl
theorem o_neg : uNeg (.int i) h = .ok (.int (-i)) h := rfl
theorem o_int : uInt (.int i) h = .ok (.int i) h := rfl
theorem o_intb : uInt (.bl p) h = .ok (.int (if p = true then 1 else 0)) h := by cases p <;> rfl
theorem o_abs : uAbs (.int i) h = .ok (.int (if i < 0 then -i else i)) h := rfl
theorem o_max : bMax (.int i) (.int j) h = .ok (.int (if j > i then j else i)) h := rfl
theorem o_min : bMin (.int i) (.int j) h = .ok (.int (if j < i then j else i)) h := rfl
theorem o_lt : cLt (.int i) (.int j) h = .ok (.bl (decide (i < j))) h := rfl
theorem o_le : cLe (.int i) (.int j) h = .ok (.bl (decide (i ≤ j))) h := rfl
theorem o_gt : cGt (.int i) (.int j) h = .ok (.bl (decide (j < i))) h := rfl
theorem o_ge : cGe (.int i) (.int j) h = .ok (.bl (decide (j ≤ i))) h := rfl
theorem o_eq_i : cEq (.int i) (.int j) h = .ok (.bl (decide (i = j))) h := rfl
theorem o_ne_i : cNe (.int i) (.int j) h = .ok (.bl (!decide (i = j))) h := rfl
theorem o_eq_s : cEq (.str a) (.str b) h = .ok (.bl (a == b)) h := rfl
theorem o_ne_s : cNe (.str a) (.str b) h = .ok (.bl (!(a == b))) h := rfl
theorem o_is_n : cIs x .non h = .ok (.bl (isN x)) h := by cases x <;> rfl
theorem o_isnt_n : cIsnt x .non h = .ok (.bl (!isN x)) h := by cases x <;> rfl
theorem o_is_b : cIs (.bl p) (.bl q) h = .ok (.bl (decide (p = q))) h := rfl
theorem o_isnt_b : cIsnt (.bl p) (.bl q) h = .ok (.bl (!decide (p = q))) h := rfl
theorem o_len_t : lenK (.tup xs) h = .ok (.int xs.length) h := rfl
theorem o_len_f : lenK (.fz xs) h = .ok (.int xs.length) h := rfl
theorem o_len_s : lenK (.str a) h = if a.length ≤ sizeLine then .ok (.int a.length) h else .bad := rfl
theorem o_len_r {k : Nat} (hk : h[k]? = some (.lst xs)) : lenK (.ref k) h = .ok (.int xs.length) h := by
  unfold lenK items
  dsimp only
  rw [hk]
theorem o_seq_t : seqK (.tup xs) h = .ok (xs, fun _ => true) h := rfl
theorem o_seq_f : seqK (.fz xs) h = .ok (xs, fun _ => true) h := rfl
theorem o_seq_r {k : Nat} (hk : h[k]? = some (.lst xs)) : seqK (.ref k) h = .ok (xs, stands k xs) h := by
  unfold seqK
  dsimp only
  rw [hk]
theorem o_enum_t : enumK (.tup xs) h = .ok (enumFrom 0 xs, fun _ => true) h := rfl
theorem o_enum_f : enumK (.fz xs) h = .ok (enumFrom 0 xs, fun _ => true) h := rfl
theorem o_items_t : items h (.tup xs) = some xs := rfl
theorem o_items_f : items h (.fz xs) = some xs := rfl
theorem o_items_r {k : Nat} : items h (.ref k) = match h[k]? with | some (.lst xs) => some xs | _ => none := rfl
theorem o_itemsL_f : itemsL h (.fz xs) = some xs := rfl
theorem o_itemsL_r {k : Nat} : itemsL h (.ref k) = match h[k]? with | some (.lst xs) => some xs | _ => none := rfl
/-- x[i] of a row of any things -/
theorem o_ix_t {v : IV} (h1 : atI xs i = some v) : bIx (.tup xs) (.int i) h = .ok v h := by unfold bIx items; dsimp only; rw [h1]
theorem o_ix_f {v : IV} (h1 : atI xs i = some v) : bIx (.fz xs) (.int i) h = .ok v h := by unfold bIx items; dsimp only; rw [h1]
theorem o_ix_r {v : IV} {k : Nat} (hk : h[k]? = some (.lst xs)) (h1 : atI xs i = some v) : bIx (.ref k) (.int i) h = .ok v h := by unfold bIx items; dsimp only; rw [hk]; dsimp only; rw [h1]
theorem atI_nat {n : Nat} {v : IV} (h1 : xs[n]? = some v) : atI xs (n : Int) = some v := by
  have hl := (List.getElem?_eq_some_iff.mp h1).1
  unfold atI ixN
  rw [if_pos (by omega), if_pos (by omega)]
  exact h1
theorem atI_iz {ns : List Int} (h1 : 0 ≤ i) (h2 : i < ns.length) : atI (iz ns) i = some (.int (geti ns i)) := by
  rw [atI_at h1 (by simpa using h2)]
  unfold geti
  rw [List.getElem?_map, List.getD_eq_getElem?_getD, List.getElem?_eq_getElem (by omega)]
  rfl
theorem ix_fz {ns : List Int} (h1 : 0 ≤ i) (h2 : i < ns.length) : bIx (.fz (iz ns)) (.int i) h = .ok (.int (geti ns i)) h := o_ix_f (atI_iz h1 h2)
theorem o_in_t {ns : List Int} : cIn (.int i) (.tup (iz ns)) h = .ok (.bl (ns.contains i)) h := cin_iz
theorem o_in_f {ns : List Int} : cIn (.int i) (.fz (iz ns)) h = .ok (.bl (ns.contains i)) h := by
  unfold cIn inItems items
  dsimp only
  rw [if_pos ⟨rfl, iz_flat ns⟩, memB_iz]
theorem o_nin_t {ns : List Int} : cNin (.int i) (.tup (iz ns)) h = .ok (.bl (!ns.contains i)) h := by
  unfold cNin inItems items
  dsimp only
  rw [if_pos ⟨rfl, iz_flat ns⟩, memB_iz]
theorem o_nin_f {ns : List Int} : cNin (.int i) (.fz (iz ns)) h = .ok (.bl (!ns.contains i)) h := by
  unfold cNin inItems items
  dsimp only
  rw [if_pos ⟨rfl, iz_flat ns⟩, memB_iz]
theorem o_in_r {k : Nat} {ns : List Int} (hk : h[k]? = some (.lst (iz ns))) : cIn (.int i) (.ref k) h = .ok (.bl (ns.contains i)) h := by
  unfold cIn inItems items
  dsimp only
  rw [hk]
  dsimp only
  rw [if_pos ⟨rfl, iz_flat ns⟩, memB_iz]
theorem o_nin_r {k : Nat} {ns : List Int} (hk : h[k]? = some (.lst (iz ns))) : cNin (.int i) (.ref k) h = .ok (.bl (!ns.contains i)) h := cnin_ref hk
theorem o_app {k : Nat} (hk : h[k]? = some (.lst xs)) (hz : xs.length < 2 ^ 20) : mAppend (.ref k) [y] h = .ok .non (h.set k (.lst (xs ++ [y]))) := by
  unfold mAppend
  dsimp only
  rw [hk]
  exact if_pos (Nat.lt_of_lt_of_le hz (by decide))
theorem o_set {fo fi : EM} {e : IEnv} {k : Nat} {v : IV} (h1 : fo e h = .ok (.ref k) h) (h2 : fi e h = .ok (.int j) h) (hk : h[k]? = some (.lst xs)) (hj : 0 ≤ j) (hl : j < xs.length) : gSb fo fi v e h = some (e, h.set k (.lst (xs.set j.toNat v))) := gsb_ref h1 h2 hk hj hl
theorem rgOk0 {n : Int} (h1 : 0 ≤ n) (h2 : n ≤ 2 ^ 20) : rgOk 0 n = true := rgOk_of h1 h2
theorem below_iz (n : Nat) (ns : List Int) : belows n (iz ns) = true := ints_below n ns
theorem b_int (n : Nat) : below n (.int i) = true := rfl
theorem b_bl (n : Nat) : below n (.bl p) = true := rfl
theorem b_str (n : Nat) : below n (.str a) = true := rfl
theorem b_non (n : Nat) : below n .non = true := rfl
theorem b_tup (n : Nat) : below n (.tup xs) = belows n xs := rfl
theorem b_fz (n : Nat) : below n (.fz xs) = belows n xs := rfl
theorem b_nil (n : Nat) : belows n [] = true := rfl
theorem b_cons (n : Nat) : belows n (x :: xs) = (below n x && belows n xs) := rfl
theorem b_app (n : Nat) : belows n (xs ++ ys) = (belows n xs && belows n ys) := by
  induction xs with
  | nil => simp [belows]
  | cons z zs ih => simp [belows, ih, Bool.and_assoc]
theorem b_map {α : Type} (n : Nat) {f : α → IV} {l : List α} (hf : ∀ x ∈ l, below n (f x) = true) : belows n (l.map f) = true := by
  induction l with
  | nil => rfl
  | cons z zs ih => rw [List.map_cons, b_cons, hf z (List.mem_cons_self ..), ih fun x hx => hf x (List.mem_cons_of_mem _ hx)]; rfl
end
end MM
namespace MM
open PySem L2
def isInt : IV → Bool
  | .int _ => true
  | .bl _ => true
  | _ => false
def isBl : IV → Bool
  | .bl _ => true
  | _ => false
def isTp : IV → Bool
  | .tup _ => true
  | _ => false
def isLs : IV → Bool
  | .fz _ => true
  | _ => false
def isSt : IV → Bool
  | .str _ => true
  | _ => false
def noRef : IV → Bool
  | .ref _ => false
  | _ => true
theorem kitOk {ty t : String} {b : Bool} {h : IH} (k : kitB ty t = some b) : isiK ty t h = .ok (.bl b) h := by unfold isiK; rw [k]
theorem o_isi_int {x : IV} (hx : noRef x = true) {h : IH} : uIsi "int" x h = .ok (.bl (isInt x)) h := by
  cases x with
  | ref _ => cases hx
  | non => exact kitOk (ty := "NoneType") (t := "int") (b := false) (by decide +kernel)
  | bl _ => exact kitOk (ty := "bool") (t := "int") (b := true) (by decide +kernel)
  | int _ => exact kitOk (ty := "int") (t := "int") (b := true) (by decide +kernel)
  | str _ => exact kitOk (ty := "str") (t := "int") (b := false) (by decide +kernel)
  | fz _ => exact kitOk (ty := "list") (t := "int") (b := false) (by decide +kernel)
  | tup _ => exact kitOk (ty := "tuple") (t := "int") (b := false) (by decide +kernel)
theorem o_isi_bool {x : IV} (hx : noRef x = true) {h : IH} : uIsi "bool" x h = .ok (.bl (isBl x)) h := by
  cases x with
  | ref _ => cases hx
  | non => exact kitOk (ty := "NoneType") (t := "bool") (b := false) (by decide +kernel)
  | bl _ => exact kitOk (ty := "bool") (t := "bool") (b := true) (by decide +kernel)
  | int _ => exact kitOk (ty := "int") (t := "bool") (b := false) (by decide +kernel)
  | str _ => exact kitOk (ty := "str") (t := "bool") (b := false) (by decide +kernel)
  | fz _ => exact kitOk (ty := "list") (t := "bool") (b := false) (by decide +kernel)
  | tup _ => exact kitOk (ty := "tuple") (t := "bool") (b := false) (by decide +kernel)
theorem o_isi_tuple {x : IV} (hx : noRef x = true) {h : IH} : uIsi "tuple" x h = .ok (.bl (isTp x)) h := by
  cases x with
  | ref _ => cases hx
  | non => exact kitOk (ty := "NoneType") (t := "tuple") (b := false) (by decide +kernel)
  | bl _ => exact kitOk (ty := "bool") (t := "tuple") (b := false) (by decide +kernel)
  | int _ => exact kitOk (ty := "int") (t := "tuple") (b := false) (by decide +kernel)
  | str _ => exact kitOk (ty := "str") (t := "tuple") (b := false) (by decide +kernel)
  | fz _ => exact kitOk (ty := "list") (t := "tuple") (b := false) (by decide +kernel)
  | tup _ => exact kitOk (ty := "tuple") (t := "tuple") (b := true) (by decide +kernel)
theorem o_isi_list {x : IV} (hx : noRef x = true) {h : IH} : uIsi "list" x h = .ok (.bl (isLs x)) h := by
  cases x with
  | ref _ => cases hx
  | non => exact kitOk (ty := "NoneType") (t := "list") (b := false) (by decide +kernel)
  | bl _ => exact kitOk (ty := "bool") (t := "list") (b := false) (by decide +kernel)
  | int _ => exact kitOk (ty := "int") (t := "list") (b := false) (by decide +kernel)
  | str _ => exact kitOk (ty := "str") (t := "list") (b := false) (by decide +kernel)
  | fz _ => exact kitOk (ty := "list") (t := "list") (b := true) (by decide +kernel)
  | tup _ => exact kitOk (ty := "tuple") (t := "list") (b := false) (by decide +kernel)
theorem o_isi_str {x : IV} (hx : noRef x = true) {h : IH} : uIsi "str" x h = .ok (.bl (isSt x)) h := by
  cases x with
  | ref _ => cases hx
  | non => exact kitOk (ty := "NoneType") (t := "str") (b := false) (by decide +kernel)
  | bl _ => exact kitOk (ty := "bool") (t := "str") (b := false) (by decide +kernel)
  | int _ => exact kitOk (ty := "int") (t := "str") (b := false) (by decide +kernel)
  | str _ => exact kitOk (ty := "str") (t := "str") (b := true) (by decide +kernel)
  | fz _ => exact kitOk (ty := "list") (t := "str") (b := false) (by decide +kernel)
  | tup _ => exact kitOk (ty := "tuple") (t := "str") (b := false) (by decide +kernel)
theorem nr_of {x : IV} (h : below 0 x = true) : noRef x = true := by
  cases x with
  | ref k => simp [below] at h
  | _ => rfl
theorem nr_non : noRef (.non) = true := rfl
theorem isInt_non : isInt (.non) = false := rfl
theorem isBl_non : isBl (.non) = false := rfl
theorem isTp_non : isTp (.non) = false := rfl
theorem isLs_non : isLs (.non) = false := rfl
theorem isSt_non : isSt (.non) = false := rfl
theorem nr_bl (b : Bool) : noRef (.bl b) = true := rfl
theorem isInt_bl (b : Bool) : isInt (.bl b) = true := rfl
theorem isBl_bl (b : Bool) : isBl (.bl b) = true := rfl
theorem isTp_bl (b : Bool) : isTp (.bl b) = false := rfl
theorem isLs_bl (b : Bool) : isLs (.bl b) = false := rfl
theorem isSt_bl (b : Bool) : isSt (.bl b) = false := rfl
theorem nr_int (b : Int) : noRef (.int b) = true := rfl
theorem isInt_int (b : Int) : isInt (.int b) = true := rfl
theorem isBl_int (b : Int) : isBl (.int b) = false := rfl
theorem isTp_int (b : Int) : isTp (.int b) = false := rfl
theorem isLs_int (b : Int) : isLs (.int b) = false := rfl
theorem isSt_int (b : Int) : isSt (.int b) = false := rfl
theorem nr_str (b : Str) : noRef (.str b) = true := rfl
theorem isInt_str (b : Str) : isInt (.str b) = false := rfl
theorem isBl_str (b : Str) : isBl (.str b) = false := rfl
theorem isTp_str (b : Str) : isTp (.str b) = false := rfl
theorem isLs_str (b : Str) : isLs (.str b) = false := rfl
theorem isSt_str (b : Str) : isSt (.str b) = true := rfl
theorem nr_fz (b : List IV) : noRef (.fz b) = true := rfl
theorem isInt_fz (b : List IV) : isInt (.fz b) = false := rfl
theorem isBl_fz (b : List IV) : isBl (.fz b) = false := rfl
theorem isTp_fz (b : List IV) : isTp (.fz b) = false := rfl
theorem isLs_fz (b : List IV) : isLs (.fz b) = true := rfl
theorem isSt_fz (b : List IV) : isSt (.fz b) = false := rfl
theorem nr_tup (b : List IV) : noRef (.tup b) = true := rfl
theorem isInt_tup (b : List IV) : isInt (.tup b) = false := rfl
theorem isBl_tup (b : List IV) : isBl (.tup b) = false := rfl
theorem isTp_tup (b : List IV) : isTp (.tup b) = true := rfl
theorem isLs_tup (b : List IV) : isLs (.tup b) = false := rfl
theorem isSt_tup (b : List IV) : isSt (.tup b) = false := rfl
theorem k_int_non {h : IH} : uIsi "int" (.non) h = .ok (.bl false) h := o_isi_int rfl
theorem k_int_bl {h : IH} {b : Bool} : uIsi "int" (.bl b) h = .ok (.bl true) h := o_isi_int rfl
theorem k_int_int {h : IH} {b : Int} : uIsi "int" (.int b) h = .ok (.bl true) h := o_isi_int rfl
theorem k_int_str {h : IH} {b : Str} : uIsi "int" (.str b) h = .ok (.bl false) h := o_isi_int rfl
theorem k_int_fz {h : IH} {b : List IV} : uIsi "int" (.fz b) h = .ok (.bl false) h := o_isi_int rfl
theorem k_int_tup {h : IH} {b : List IV} : uIsi "int" (.tup b) h = .ok (.bl false) h := o_isi_int rfl
theorem k_bool_non {h : IH} : uIsi "bool" (.non) h = .ok (.bl false) h := o_isi_bool rfl
theorem k_bool_bl {h : IH} {b : Bool} : uIsi "bool" (.bl b) h = .ok (.bl true) h := o_isi_bool rfl
theorem k_bool_int {h : IH} {b : Int} : uIsi "bool" (.int b) h = .ok (.bl false) h := o_isi_bool rfl
theorem k_bool_str {h : IH} {b : Str} : uIsi "bool" (.str b) h = .ok (.bl false) h := o_isi_bool rfl
theorem k_bool_fz {h : IH} {b : List IV} : uIsi "bool" (.fz b) h = .ok (.bl false) h := o_isi_bool rfl
theorem k_bool_tup {h : IH} {b : List IV} : uIsi "bool" (.tup b) h = .ok (.bl false) h := o_isi_bool rfl
theorem k_tuple_non {h : IH} : uIsi "tuple" (.non) h = .ok (.bl false) h := o_isi_tuple rfl
theorem k_tuple_bl {h : IH} {b : Bool} : uIsi "tuple" (.bl b) h = .ok (.bl false) h := o_isi_tuple rfl
theorem k_tuple_int {h : IH} {b : Int} : uIsi "tuple" (.int b) h = .ok (.bl false) h := o_isi_tuple rfl
theorem k_tuple_str {h : IH} {b : Str} : uIsi "tuple" (.str b) h = .ok (.bl false) h := o_isi_tuple rfl
theorem k_tuple_fz {h : IH} {b : List IV} : uIsi "tuple" (.fz b) h = .ok (.bl false) h := o_isi_tuple rfl
theorem k_tuple_tup {h : IH} {b : List IV} : uIsi "tuple" (.tup b) h = .ok (.bl true) h := o_isi_tuple rfl
theorem k_list_non {h : IH} : uIsi "list" (.non) h = .ok (.bl false) h := o_isi_list rfl
theorem k_list_bl {h : IH} {b : Bool} : uIsi "list" (.bl b) h = .ok (.bl false) h := o_isi_list rfl
theorem k_list_int {h : IH} {b : Int} : uIsi "list" (.int b) h = .ok (.bl false) h := o_isi_list rfl
theorem k_list_str {h : IH} {b : Str} : uIsi "list" (.str b) h = .ok (.bl false) h := o_isi_list rfl
theorem k_list_fz {h : IH} {b : List IV} : uIsi "list" (.fz b) h = .ok (.bl true) h := o_isi_list rfl
theorem k_list_tup {h : IH} {b : List IV} : uIsi "list" (.tup b) h = .ok (.bl false) h := o_isi_list rfl
theorem k_str_non {h : IH} : uIsi "str" (.non) h = .ok (.bl false) h := o_isi_str rfl
theorem k_str_bl {h : IH} {b : Bool} : uIsi "str" (.bl b) h = .ok (.bl false) h := o_isi_str rfl
theorem k_str_int {h : IH} {b : Int} : uIsi "str" (.int b) h = .ok (.bl false) h := o_isi_str rfl
theorem k_str_str {h : IH} {b : Str} : uIsi "str" (.str b) h = .ok (.bl true) h := o_isi_str rfl
theorem k_str_fz {h : IH} {b : List IV} : uIsi "str" (.fz b) h = .ok (.bl false) h := o_isi_str rfl
theorem k_str_tup {h : IH} {b : List IV} : uIsi "str" (.tup b) h = .ok (.bl false) h := o_isi_str rfl
theorem Rt_of {w u : IV} {h : IH} (hu : below 0 u = true) : Rt w u h ↔ w = u := by
  unfold Rt
  rw [fin0 hu]
  exact ⟨fun q => by cases q; rfl, fun q => by rw [q]⟩
theorem Rt_bl {w : IV} {h : IH} {b : Bool} : Rt w (.bl b) h ↔ w = .bl b := Rt_of rfl
theorem Rt_int {w : IV} {h : IH} {b : Int} : Rt w (.int b) h ↔ w = .int b := Rt_of rfl
theorem Rt_str {w : IV} {h : IH} {b : Str} : Rt w (.str b) h ↔ w = .str b := Rt_of rfl
theorem Rt_non {w : IV} {h : IH} : Rt w .non h ↔ w = .non := Rt_of rfl
theorem Rt_tupz {w : IV} {h : IH} {ns : List Int} : Rt w (.tup (iz ns)) h ↔ w = .tup (iz ns) := Rt_of (below_tup 0 ns)
theorem Rt_fzz {w : IV} {h : IH} {ns : List Int} : Rt w (.fz (iz ns)) h ↔ w = .fz (iz ns) := Rt_of (by rw [b_fz]; exact below_iz 0 ns)
section
variable {P : List IV → IH → Prop} {X : XC → IH → Prop} {e : IEnv} {h : IH} {G : IH → Bool} {g : GM} {f : EM} {c : IEnv → IH → R Bool}
theorem lc_mapV {xs : List IV} (mv : IV → IV) (hG : G h = true) (hx : ∀ x ∈ xs, ∃ e1, g x e h = some (e1, h) ∧ wr (f e1 h) (fun v h1 => v = mv x ∧ h1 = h) fun _ _ => False) (hP : P (xs.map mv) h) : wr (lcM G g tYesM f e xs h) P X := by
  have q := lc_map' (X := X) (mk := id) mv hG hx hP
  rw [List.map_id] at q
  exact q
theorem lc_ifV {xs : List IV} (p : IV → Bool) (mv : IV → IV) (hG : G h = true)
    (hx : ∀ x ∈ xs, ∃ e1, g x e h = some (e1, h) ∧ wr (c e1 h) (fun b h1 => b = p x ∧ h1 = h) (fun _ _ => False) ∧ (p x = true → wr (f e1 h) (fun v h1 => v = mv x ∧ h1 = h) fun _ _ => False))
    (hP : P ((xs.filter p).map mv) h) : wr (lcM G g c f e xs h) P X := by
  have q := lc_if (X := X) (mk := id) p mv hG hx hP
  rw [List.map_id] at q
  exact q
end
def ofO (o : Option IV) (h : IH) : R IV := match o with
  | some v => .ok v h
  | none => .bad
theorem wr_ofO {o : Option IV} {h : IH} {P : IV → IH → Prop} {X : XC → IH → Prop} : wr (ofO o h) P X ↔ ∃ v, o = some v ∧ P v h := by
  cases o with
  | none => exact ⟨fun q => (wr_bad.mp q).elim, fun ⟨_, q, _⟩ => by cases q⟩
  | some v => exact ⟨fun q => ⟨v, rfl, wr_ok.mp q⟩, fun ⟨_, q, p⟩ => by cases q; exact wr_ok.mpr p⟩
theorem bIx_t {xs : List IV} {i : Int} {h : IH} : bIx (.tup xs) (.int i) h = ofO (atI xs i) h := rfl
theorem bIx_f {xs : List IV} {i : Int} {h : IH} : bIx (.fz xs) (.int i) h = ofO (atI xs i) h := rfl
theorem bIx_r {k : Nat} {i : Int} {h : IH} : bIx (.ref k) (.int i) h = match h[k]? with
    | some (.lst xs) => ofO (atI xs i) h
    | _ => .bad := by
  unfold bIx items
  dsimp only
  cases h[k]? with
  | none => rfl
  | some o => cases o <;> rfl
theorem lenK_r {k : Nat} {h : IH} : lenK (.ref k) h = match h[k]? with
    | some (.lst xs) => .ok (.int xs.length) h
    | _ => .bad := by
  unfold lenK items
  dsimp only
  cases h[k]? with
  | none => rfl
  | some o => cases o <;> rfl
theorem seqK_r {k : Nat} {h : IH} : seqK (.ref k) h = match h[k]? with
    | some (.lst xs) => .ok (xs, stands k xs) h
    | _ => .bad := rfl
theorem mApp_eq {k : Nat} {y : IV} {h : IH} : mAppend (.ref k) [y] h = match h[k]? with
    | some (.lst xs) => if xs.length < sizeLine then .ok .non (h.set k (.lst (xs ++ [y]))) else .bad
    | _ => .bad := rfl
theorem mPop0_eq {k : Nat} {h : IH} : mPop (.ref k) [] h = match h[k]? with
    | some (.lst xs) => match xs[xs.length - 1]? with
      | some y => .ok y (h.set k (.lst xs.dropLast))
      | none => .bad
    | _ => .bad := rfl
theorem mulK_i {i j : Int} {h : IH} : mulK (.int i) (.int j) h = if ((-(2 ^ 64) < i ∧ i < 2 ^ 64) ∨ (-(2 ^ 64) < j ∧ j < 2 ^ 64)) ∨ i.natAbs.log2 + j.natAbs.log2 < 1000000 then .ok (.int (i * j)) h else .bad := rfl
theorem mulK_t {xs : List IV} {k : Int} {h : IH} : mulK (.tup xs) (.int k) h = if xs ≠ [] ∧ 2 ≤ k ∧ k ≤ 100000 ∧ xs.length ≤ 10 then .ok (.tup (List.replicate k.toNat xs).flatten) h else .bad := rfl
theorem mulK_s {a : Str} {k : Int} {h : IH} : mulK (.str a) (.int k) h = if 2 ≤ k ∧ k ≤ 100000 ∧ 1 ≤ a.length ∧ a.length ≤ 10 then .ok (.str (repS a k.toNat)) h else .bad := rfl
theorem gNm_eq {i : Nat} {v : IV} {e : IEnv} {h : IH} : gNm i v e h = some (e.set i (some v), h) := rfl
theorem gTp_eq {n : Nat} {k : List IV → IEnv → IH → Option (IEnv × IH)} {xs : List IV} {e : IEnv} {h : IH} : gTp n k (.tup xs) e h = if xs.length = n then k xs e h else none := rfl
theorem gCons_eq {g : GM} {k : List IV → IEnv → IH → Option (IEnv × IH)} {v : IV} {vs : List IV} {e : IEnv} {h : IH} : gCons' g k (v :: vs) e h = (g v e h).bind fun p => k vs p.1 p.2 := by
  show (match g v e h with | some (e1, h1) => k vs e1 h1 | none => none) = _
  cases g v e h <;> rfl
theorem gNil_eq {e : IEnv} {h : IH} : gNil' [] e h = some (e, h) := rfl
theorem wp_asgSb {f fo fi : EM} {e : IEnv} {h : IH} {K : Ks} (hx : ∀ x h1 z, fo e h1 ≠ .exc x z) (hy : ∀ x h1 z, fi e h1 ≠ .exc x z) : wp (sAsg f (gSb fo fi) e h) K ↔ wr (f e h) (fun v h1 => wr (fo e h1) (fun x h2 => ∃ k, x = .ref k ∧ wr (fi e h2) (fun y h3 => ∃ j, y = .int j ∧ ∃ xs, h3[k]? = some (.lst xs) ∧ ∃ n, ixN xs.length j = some n ∧ K.nx e (h3.set k (.lst (xs.set n v)))) (fun _ _ => False)) fun _ _ => False) (fun x h => K.ex x e h) := by
  rw [wp_asg]
  refine wr_both fun v h1 => ?_
  unfold gSb
  constructor
  · rintro ⟨e2, h2, q, n⟩
    cases ho : fo e h1 with
    | bad => rw [ho] at q; cases q
    | exc x z => exact absurd ho (hx _ _ _)
    | ok x h2' =>
      rw [ho] at q
      rw [wr_ok]
      cases x <;> first | cases q | skip
      rename_i k
      refine ⟨k, rfl, ?_⟩
      dsimp only at q
      cases hi : fi e h2' with
      | bad => rw [hi] at q; cases q
      | exc x z => exact absurd hi (hy _ _ _)
      | ok y h3 =>
        rw [hi] at q
        rw [wr_ok]
        cases y <;> first | cases q | skip
        rename_i j
        refine ⟨j, rfl, ?_⟩
        dsimp only at q
        split at q
        · rename_i xs hk
          split at q
          · rename_i m hm
            cases q
            exact ⟨xs, hk, m, hm, n⟩
          · cases q
        · cases q
  · intro q
    rcases q.ex with ⟨x, h2, ho, k, rfl, q⟩ | ⟨_, _, _, fls⟩
    · rcases q.ex with ⟨y, h3, hi, j, rfl, xs, hk, m, hm, n⟩ | ⟨_, _, _, fls⟩
      · rw [ho]
        dsimp only
        rw [hi]
        dsimp only
        rw [hk]
        dsimp only
        rw [hm]
        exact ⟨_, _, rfl, n⟩
      · exact fls.elim
    · exact fls.elim
theorem noX_var {i : Nat} {e : IEnv} (x : XC) (h1 z : IH) : eVar i e h1 ≠ .exc x z := by
  unfold eVar
  split <;> exact fun q => by cases q
theorem noX_k {v : IV} {e : IEnv} (x : XC) (h1 z : IH) : eK v e h1 ≠ .exc x z := fun q => by cases q
theorem wp_asgVK {f : EM} {i : Nat} {v : IV} {e : IEnv} {h : IH} {K : Ks} : wp (sAsg f (gSb (eVar i) (eK v)) e h) K ↔ wr (f e h) (fun w' h1 => wr (eVar i e h1) (fun x h2 => ∃ k, x = .ref k ∧ wr (eK v e h2) (fun y h3 => ∃ j, y = .int j ∧ ∃ xs, h3[k]? = some (.lst xs) ∧ ∃ n, ixN xs.length j = some n ∧ K.nx e (h3.set k (.lst (xs.set n w')))) (fun _ _ => False)) fun _ _ => False) (fun x h => K.ex x e h) := wp_asgSb noX_var noX_k
theorem wp_asgVV {f : EM} {i j : Nat} {e : IEnv} {h : IH} {K : Ks} : wp (sAsg f (gSb (eVar i) (eVar j)) e h) K ↔ wr (f e h) (fun w' h1 => wr (eVar i e h1) (fun x h2 => ∃ k, x = .ref k ∧ wr (eVar j e h2) (fun y h3 => ∃ j, y = .int j ∧ ∃ xs, h3[k]? = some (.lst xs) ∧ ∃ n, ixN xs.length j = some n ∧ K.nx e (h3.set k (.lst (xs.set n w')))) (fun _ _ => False)) fun _ _ => False) (fun x h => K.ex x e h) := wp_asgSb noX_var noX_var
theorem noX_ix {a b : Nat} {e : IEnv} (x : XC) (h1 z : IH) : eIx (eVar a) (eVar b) e h1 ≠ .exc x z := by
  intro q
  have w : wr (eIx (eVar a) (eVar b) e h1) (fun _ _ => False) (fun _ _ => True) := by rw [q, wr_exc]; trivial
  simp only [wr_ix, wr_var] at w
  obtain ⟨v, _, u, _, w⟩ := w
  cases v <;> cases u <;> simp only [bIx, bIxS] at w <;> (repeat (first | exact wr_bad.mp w | exact wr_ok.mp w | split at w))
theorem wp_asgVI {f : EM} {i a b : Nat} {e : IEnv} {h : IH} {K : Ks} : wp (sAsg f (gSb (eVar i) (eIx (eVar a) (eVar b))) e h) K ↔ wr (f e h) (fun w' h1 => wr (eVar i e h1) (fun x h2 => ∃ k, x = .ref k ∧ wr (eIx (eVar a) (eVar b) e h2) (fun y h3 => ∃ j, y = .int j ∧ ∃ xs, h3[k]? = some (.lst xs) ∧ ∃ n, ixN xs.length j = some n ∧ K.nx e (h3.set k (.lst (xs.set n w')))) (fun _ _ => False)) fun _ _ => False) (fun x h => K.ex x e h) := wp_asgSb noX_var noX_ix
theorem ixN_nat {n l : Nat} (h : n < l) : ixN l (n : Int) = some n := by
  unfold ixN
  rw [if_pos (by omega), if_pos (by omega)]
  rfl
theorem ixN_of {i : Int} {l : Nat} (h1 : 0 ≤ i) (h2 : i < l) : ixN l i = some i.toNat := by
  unfold ixN
  rw [if_pos h1, if_pos h2]
theorem ixN_0 {l : Nat} : ixN (l + 1) 0 = some 0 := ixN_nat (n := 0) (by omega)
theorem ixN_1 {l : Nat} : ixN (l + 1 + 1) 1 = some 1 := ixN_nat (n := 1) (by omega)
theorem atI_lit {xs : List IV} (n : Nat) : atI xs (n : Int) = xs[n]? := by
  by_cases h : n < xs.length
  · unfold atI; rw [ixN_nat h]; rfl
  · rw [List.getElem?_eq_none (by omega)]
    unfold atI ixN
    rw [if_pos (by omega), if_neg (by omega)]
    rfl
theorem atI_0 {xs : List IV} : atI xs 0 = xs[0]? := atI_lit 0
theorem atI_1 {xs : List IV} : atI xs 1 = xs[1]? := atI_lit 1
theorem atI_2 {xs : List IV} : atI xs 2 = xs[2]? := atI_lit 2
theorem atI_3 {xs : List IV} : atI xs 3 = xs[3]? := atI_lit 3
theorem atI_neg1 {xs : List IV} : atI xs (-1) = xs[xs.length - 1]? := by
  unfold atI ixN
  rw [if_neg (by decide)]
  by_cases h : xs = []
  · subst h; rfl
  · have := List.length_pos_iff.mpr h
    rw [if_pos (by omega)]
    show xs[_]? = _
    congr 1
    omega
section
variable {e : IEnv} {h : IH} {X : XC → IH → Prop}
theorem wr_mth' {o : IV → List IV → IH → R IV} {f : EM} {g : IEnv → IH → R (List IV)} {P : IV → IH → Prop} : wr (eMth o f g e h) P X ↔ wr (f e h) (fun x h1 => ∃ k, x = .ref k ∧ ∃ xs, h1[k]? = some (.lst xs) ∧ wr (g e h1) (fun ys h2 => wr (o x ys h2) P X) X) X := by rw [wr_mth]; simp only [exists_and_left]
theorem wr_mth0' {o : IV → List IV → IH → R IV} {f : EM} {P : IV → IH → Prop} : wr (eMth0 o f e h) P X ↔ wr (f e h) (fun x h1 => ∃ k, x = .ref k ∧ ∃ xs, h1[k]? = some (.lst xs) ∧ wr (o x [] h1) P X) X := by rw [wr_mth0]; simp only [exists_and_left]
theorem wr_ints' {g : List Int → Option Int} {f : IEnv → IH → R (List IV)} {P : IV → IH → Prop} : wr (eInts g f e h) P X ↔ wr (f e h) (fun xs h1 => ∃ ns, intsOf xs = some ns ∧ ∃ i, g ns = some i ∧ P (.int i) h1) X := by rw [wr_ints]; simp only [exists_and_left]
theorem wr_iRg2' {f g : EM} {P : List IV × (IH → Bool) → IH → Prop} : wr (iRg2 f g e h) P X ↔ wr (f e h) (fun x h1 => wr (g e h1) (fun y h2 => ∃ a, x = .int a ∧ ∃ b, y = .int b ∧ rgOk a b = true ∧ P (lRange a b, fun _ => true) h2) X) X := by rw [wr_iRg2]; simp only [exists_and_left]
end
end MM
/-! R5: values as data: equality, membership, texts -/
namespace MM
open PySem L2
mutual
/-- a value without lists of the small heap, as data -/
def dv : IV → PyData
  | .non => .none
  | .bl b => .bool b
  | .int i => .int i
  | .str s => .str s
  | .fz xs => .list (dvs xs)
  | .tup xs => .tuple (dvs xs)
  | .ref _ => .none
def dvs : List IV → List PyData
  | [] => []
  | x :: xs => dv x :: dvs xs
end
mutual
/-- of such a depth, its texts plain -/
def dp : Nat → IV → Bool
  | _, .non => true
  | _, .bl _ => true
  | _, .int _ => true
  | _, .str s => PyData.strOk s
  | 0, .fz _ => false
  | n + 1, .fz xs => dps n xs
  | 0, .tup _ => false
  | n + 1, .tup xs => dps n xs
  | _, .ref _ => false
def dps : Nat → List IV → Bool
  | _, [] => true
  | n, x :: xs => dp n x && dps n xs
end
theorem dvs_map (xs : List IV) : dvs xs = xs.map dv := by
  induction xs with
  | nil => rfl
  | cons x xs ih => rw [dvs, ih]; rfl
theorem dps_all (n : Nat) (xs : List IV) : dps n xs = xs.all (dp n) := by
  induction xs with
  | nil => rfl
  | cons x xs ih => rw [dps, ih]; rfl
theorem dvs_iz (ns : List Int) : dvs (iz ns) = ns.map PyData.int := by
  rw [dvs_map, List.map_map]; rfl
theorem dps_iz (n : Nat) (ns : List Int) : dps n (iz ns) = true := by
  rw [dps_all, List.all_map]
  exact List.all_eq_true.mpr fun _ _ => by simp [dp]
theorem dps_map {α : Type} {n : Nat} {f : α → IV} {l : List α} (h : ∀ x ∈ l, dp n (f x) = true) : dps n (l.map f) = true := by
  rw [dps_all, List.all_map]
  exact List.all_eq_true.mpr fun x hx => h x hx
theorem dps_app {n : Nat} {xs ys : List IV} : dps n (xs ++ ys) = (dps n xs && dps n ys) := by
  rw [dps_all, dps_all, dps_all, List.all_append]
theorem optAll_map {α β : Type} {f : α → Option β} {g : α → β} : ∀ {l : List α}, (∀ x ∈ l, f x = some (g x)) → optAll f l = some (l.map g)
  | [], _ => rfl
  | x :: xs, h => by
    unfold optAll
    rw [h x (List.mem_cons_self ..), optAll_map fun y hy => h y (List.mem_cons_of_mem _ hy)]
    rfl
theorem toD_dv {h : IH} : ∀ (n : Nat) (x : IV), dp n x = true → toD h (n + 1) x = some (dv x)
  | _, .non, _ => by simp [toD, dv]
  | _, .bl _, _ => by simp [toD, dv]
  | _, .int _, _ => by simp [toD, dv]
  | _, .str _, _ => by simp [toD, dv]
  | 0, .fz _, q => by simp [dp] at q
  | n + 1, .fz xs, q => by
    simp only [dp, dps_all, List.all_eq_true] at q
    show (optAll (toD h (n + 1)) xs).map PyData.list = _
    rw [optAll_map fun x hx => toD_dv n x (q x hx)]
    simp only [dv, dvs_map]
    rfl
  | 0, .tup _, q => by simp [dp] at q
  | n + 1, .tup xs, q => by
    simp only [dp, dps_all, List.all_eq_true] at q
    show (optAll (toD h (n + 1)) xs).map PyData.tuple = _
    rw [optAll_map fun x hx => toD_dv n x (q x hx)]
    simp only [dv, dvs_map]
    rfl
  | 0, .ref _, q => by simp [dp] at q
  | _ + 1, .ref _, q => by simp [dp] at q
theorem canLayAll0_all : ∀ ds : List PyData, (∀ d ∈ ds, d.canLay0 = true) → PyData.canLayAll0 ds = true
  | [], _ => rfl
  | d :: ds, h => by
    rw [PyData.canLayAll0, h d (List.mem_cons_self ..), canLayAll0_all ds fun x hx => h x (List.mem_cons_of_mem _ hx)]
    rfl
theorem dv_lay : ∀ (n : Nat) (x : IV), dp n x = true → (dv x).canLay0 = true ∧ (dv x).depth ≤ n
  | _, .non, _ => ⟨rfl, Nat.zero_le _⟩
  | _, .bl _, _ => ⟨rfl, Nat.zero_le _⟩
  | _, .int _, _ => ⟨rfl, Nat.zero_le _⟩
  | _, .str s, q => by
    simp only [dp] at q
    exact ⟨by simpa only [dv, PyData.canLay0] using q, Nat.zero_le _⟩
  | 0, .fz _, q => by simp [dp] at q
  | n + 1, .fz xs, q => by
    simp only [dp, dps_all, List.all_eq_true] at q
    have z : ∀ d ∈ xs.map dv, d.canLay0 = true ∧ d.depth ≤ n := fun d hd => by
      obtain ⟨x, hx, e⟩ := List.mem_map.mp hd
      rw [← e]
      exact dv_lay n x (q x hx)
    simp only [dv, dvs_map]
    exact ⟨by simpa only [PyData.canLay0] using canLayAll0_all _ fun d hd => (z d hd).1, by simp only [PyData.depth]; exact Nat.succ_le_succ (depthAll_le fun d hd => (z d hd).2)⟩
  | 0, .tup _, q => by simp [dp] at q
  | n + 1, .tup xs, q => by
    simp only [dp, dps_all, List.all_eq_true] at q
    have z : ∀ d ∈ xs.map dv, d.canLay0 = true ∧ d.depth ≤ n := fun d hd => by
      obtain ⟨x, hx, e⟩ := List.mem_map.mp hd
      rw [← e]
      exact dv_lay n x (q x hx)
    simp only [dv, dvs_map]
    exact ⟨by simpa only [PyData.canLay0] using canLayAll0_all _ fun d hd => (z d hd).1, by simp only [PyData.depth]; exact Nat.succ_le_succ (depthAll_le fun d hd => (z d hd).2)⟩
  | 0, .ref _, q => by simp [dp] at q
  | _ + 1, .ref _, q => by simp [dp] at q
theorem dv_shaped {x : IV} (q : dp 64 x = true) : SeqAt.shaped (dv x) = true := by
  have z := dv_lay 64 x q
  unfold SeqAt.shaped
  rw [z.1, decide_eq_true z.2]
  rfl
theorem dp_mono {n m : Nat} (h : n ≤ m) : ∀ x : IV, dp n x = true → dp m x = true := by
  suffices hh : ∀ (n : Nat) (x : IV), dp n x = true → ∀ m, n ≤ m → dp m x = true from fun x q => hh n x q m h
  intro n
  induction n with
  | zero =>
    intro x q m _
    cases x <;> cases m <;> simp_all [dp]
  | succ n ih =>
    intro x q m hm
    obtain ⟨k, rfl⟩ : ∃ k, m = k + 1 := ⟨m - 1, by omega⟩
    cases x with
    | fz xs => simp only [dp, dps_all, List.all_eq_true] at q ⊢; exact fun x hx => ih x (q x hx) k (by omega)
    | tup xs => simp only [dp, dps_all, List.all_eq_true] at q ⊢; exact fun x hx => ih x (q x hx) k (by omega)
    | ref _ => simp [dp] at q
    | str s => simpa only [dp] using q
    | non => simp [dp]
    | bl _ => simp [dp]
    | int _ => simp [dp]

/-! ### equality -/
theorem twoD_dv {x y : IV} {h : IH} {f : PyData → PyData → R IV} (hx : dp 64 x = true) (hy : dp 64 y = true) : twoD x y h f = f (dv x) (dv y) := by
  unfold twoD
  rw [toD_dv 65 x (dp_mono (by decide) x hx), toD_dv 65 y (dp_mono (by decide) y hy)]
  dsimp only
  rw [if_pos ⟨dv_shaped hx, dv_shaped hy⟩]
theorem cEq_dv {x y : IV} {h : IH} (hx : dp 64 x = true) (hy : dp 64 y = true) : cEq x y h = .ok (.bl (PyData.eqv (dv x) (dv y))) h := by
  unfold cEq
  split
  · rename_i i j
    simp only [dv, PyData.eqv]
    rw [Bool.beq_eq_decide_eq]
  · simp only [dv, PyData.eqv]
  · exact twoD_dv hx hy
theorem cNe_dv {x y : IV} {h : IH} (hx : dp 64 x = true) (hy : dp 64 y = true) : cNe x y h = .ok (.bl (!PyData.eqv (dv x) (dv y))) h := by
  unfold cNe
  split
  · rename_i i j
    simp only [dv, PyData.eqv]
    rw [Bool.beq_eq_decide_eq]
  · simp only [dv, PyData.eqv]
  · exact twoD_dv hx hy
mutual
/-- no truth in it -/
def nbl : IV → Bool
  | .bl _ => false
  | .fz xs => nbls xs
  | .tup xs => nbls xs
  | .ref _ => false
  | _ => true
def nbls : List IV → Bool
  | [] => true
  | x :: xs => nbl x && nbls xs
end
theorem nbls_all (xs : List IV) : nbls xs = xs.all nbl := by
  induction xs with
  | nil => rfl
  | cons x xs ih => rw [nbls, ih]; rfl
theorem nbls_iz (ns : List Int) : nbls (iz ns) = true := by
  rw [nbls_all, List.all_map]
  exact List.all_eq_true.mpr fun _ _ => by simp [nbl]
theorem nbls_map {α : Type} {f : α → IV} {l : List α} (h : ∀ x ∈ l, nbl (f x) = true) : nbls (l.map f) = true := by
  rw [nbls_all, List.all_map]
  exact List.all_eq_true.mpr fun x hx => h x hx
mutual
theorem eqv_eqIV : ∀ (x y : IV), nbl x = true → nbl y = true → PyData.eqv (dv x) (dv y) = eqIV x y
  | .bl _, _, q, _ => by simp [nbl] at q
  | .ref _, _, q, _ => by simp [nbl] at q
  | _, .bl _, _, q => by simp [nbl] at q
  | _, .ref _, _, q => by simp [nbl] at q
  | .fz xs, .fz ys, q, r => by
    simp only [nbl] at q r
    simp only [dv, PyData.eqv, eqIV]
    exact eqv_eqIVs xs ys q r
  | .tup xs, .tup ys, q, r => by
    simp only [nbl] at q r
    simp only [dv, PyData.eqv, eqIV]
    exact eqv_eqIVs xs ys q r
  | .int i, .int j, _, _ => by simp only [dv, PyData.eqv, eqIV]
  | .str i, .str j, _, _ => by simp only [dv, PyData.eqv, eqIV]
  | .non, .non, _, _ => by simp only [dv, PyData.eqv, eqIV]
  | .non, .int _, _, _ => by simp only [dv, PyData.eqv, eqIV]
  | .non, .str _, _, _ => by simp only [dv, PyData.eqv, eqIV]
  | .non, .fz _, _, _ => by simp only [dv, PyData.eqv, eqIV]
  | .non, .tup _, _, _ => by simp only [dv, PyData.eqv, eqIV]
  | .int _, .non, _, _ => by simp only [dv, PyData.eqv, eqIV]
  | .int _, .str _, _, _ => by simp only [dv, PyData.eqv, eqIV]
  | .int _, .fz _, _, _ => by simp only [dv, PyData.eqv, eqIV]
  | .int _, .tup _, _, _ => by simp only [dv, PyData.eqv, eqIV]
  | .str _, .non, _, _ => by simp only [dv, PyData.eqv, eqIV]
  | .str _, .int _, _, _ => by simp only [dv, PyData.eqv, eqIV]
  | .str _, .fz _, _, _ => by simp only [dv, PyData.eqv, eqIV]
  | .str _, .tup _, _, _ => by simp only [dv, PyData.eqv, eqIV]
  | .fz _, .non, _, _ => by simp only [dv, PyData.eqv, eqIV]
  | .fz _, .int _, _, _ => by simp only [dv, PyData.eqv, eqIV]
  | .fz _, .str _, _, _ => by simp only [dv, PyData.eqv, eqIV]
  | .fz _, .tup _, _, _ => by simp only [dv, PyData.eqv, eqIV]
  | .tup _, .non, _, _ => by simp only [dv, PyData.eqv, eqIV]
  | .tup _, .int _, _, _ => by simp only [dv, PyData.eqv, eqIV]
  | .tup _, .str _, _, _ => by simp only [dv, PyData.eqv, eqIV]
  | .tup _, .fz _, _, _ => by simp only [dv, PyData.eqv, eqIV]
theorem eqv_eqIVs : ∀ (xs ys : List IV), nbls xs = true → nbls ys = true → PyData.eqvAll (dvs xs) (dvs ys) = eqIVs xs ys
  | [], [], _, _ => by simp only [dvs, PyData.eqvAll, eqIVs]
  | [], _ :: _, _, _ => by simp only [dvs, PyData.eqvAll, eqIVs]
  | _ :: _, [], _, _ => by simp only [dvs, PyData.eqvAll, eqIVs]
  | x :: xs, y :: ys, q, r => by
    simp only [nbls, Bool.and_eq_true] at q r
    simp only [dvs, PyData.eqvAll, eqIVs]
    rw [eqv_eqIV x y q.1 r.1, eqv_eqIVs xs ys q.2 r.2]
end
theorem eqIV_iff {x y : IV} : eqIV x y = true ↔ x = y := ⟨eqIV_eq x y, fun h => by rw [h]; exact eqIV_refl y⟩
theorem eqIV_niff {x y : IV} : eqIV x y = false ↔ x ≠ y := by
  rw [← Bool.not_eq_true, eqIV_iff]
/-- plain: without truths, not deep -/
def pl (x : IV) : Bool := nbl x && dp 60 x
theorem cEq_pl {x y : IV} {h : IH} (hx : pl x = true) (hy : pl y = true) : cEq x y h = .ok (.bl (eqIV x y)) h := by
  unfold pl at hx hy
  rw [Bool.and_eq_true] at hx hy
  rw [cEq_dv (dp_mono (by decide) _ hx.2) (dp_mono (by decide) _ hy.2), eqv_eqIV x y hx.1 hy.1]
theorem cNe_pl {x y : IV} {h : IH} (hx : pl x = true) (hy : pl y = true) : cNe x y h = .ok (.bl (!eqIV x y)) h := by
  unfold pl at hx hy
  rw [Bool.and_eq_true] at hx hy
  rw [cNe_dv (dp_mono (by decide) _ hx.2) (dp_mono (by decide) _ hy.2), eqv_eqIV x y hx.1 hy.1]
theorem pl_tz (ns : List Int) : pl (.tup (iz ns)) = true := by unfold pl; simp only [nbl, dp, nbls_iz, dps_iz, Bool.and_self]
theorem pl_fz (ns : List Int) : pl (.fz (iz ns)) = true := by unfold pl; simp only [nbl, dp, nbls_iz, dps_iz, Bool.and_self]
theorem pl_nil : pl (.fz []) = true := rfl
theorem pl_int (i : Int) : pl (.int i) = true := by unfold pl; simp [nbl, dp]
theorem pl_non : pl .non = true := rfl
theorem eqIVs_iz (a b : List Int) : eqIVs (iz a) (iz b) = decide (a = b) := by
  rw [Bool.eq_iff_iff, decide_eq_true_eq]
  constructor
  · intro h
    have := eqIVs_eq _ _ h
    exact (List.map_inj_right (f := IV.int) fun _ _ e => by cases e; rfl).mp this
  · rintro rfl; exact eqIVs_refl _
theorem eqIV_tz (a b : List Int) : eqIV (.tup (iz a)) (.tup (iz b)) = decide (a = b) := by simp only [eqIV]; exact eqIVs_iz a b
theorem eqIV_fz (a b : List Int) : eqIV (.fz (iz a)) (.fz (iz b)) = decide (a = b) := by simp only [eqIV]; exact eqIVs_iz a b
theorem eqIV_fn (a : List IV) : eqIV (.fz a) (.fz []) = a.isEmpty := by cases a <;> simp [eqIV, eqIVs]
/-- x == y of rows of numbers -/
theorem eq_tt (a b : List Int) (h : IH) : cEq (.tup (iz a)) (.tup (iz b)) h = .ok (.bl (decide (a = b))) h := by rw [cEq_pl (pl_tz a) (pl_tz b), eqIV_tz]
theorem ne_tt (a b : List Int) (h : IH) : cNe (.tup (iz a)) (.tup (iz b)) h = .ok (.bl (!decide (a = b))) h := by rw [cNe_pl (pl_tz a) (pl_tz b), eqIV_tz]
theorem eq_ff (a b : List Int) (h : IH) : cEq (.fz (iz a)) (.fz (iz b)) h = .ok (.bl (decide (a = b))) h := by rw [cEq_pl (pl_fz a) (pl_fz b), eqIV_fz]
theorem ne_ff (a b : List Int) (h : IH) : cNe (.fz (iz a)) (.fz (iz b)) h = .ok (.bl (!decide (a = b))) h := by rw [cNe_pl (pl_fz a) (pl_fz b), eqIV_fz]
theorem toD_r {h : IH} {k : Nat} {xs : List IV} (hk : h[k]? = some (.lst xs)) (n : Nat) : toD h (n + 1) (.ref k) = toD h (n + 1) (.fz xs) := by
  simp only [toD]
  rw [hk]
theorem cEq_r {h : IH} {k : Nat} {xs ys : List IV} (hk : h[k]? = some (.lst xs)) : cEq (.ref k) (.fz ys) h = cEq (.fz xs) (.fz ys) h := by
  show twoD _ _ _ _ = twoD _ _ _ _
  unfold twoD
  rw [toD_r hk 65]
theorem cNe_r {h : IH} {k : Nat} {xs ys : List IV} (hk : h[k]? = some (.lst xs)) : cNe (.ref k) (.fz ys) h = cNe (.fz xs) (.fz ys) h := by
  show twoD _ _ _ _ = twoD _ _ _ _
  unfold twoD
  rw [toD_r hk 65]
theorem eq_nil {a : List IV} (q : pl (.fz a) = true) (h : IH) : cEq (.fz a) (.fz []) h = .ok (.bl a.isEmpty) h := by rw [cEq_pl q pl_nil, eqIV_fn]
theorem ne_nil {a : List IV} (q : pl (.fz a) = true) (h : IH) : cNe (.fz a) (.fz []) h = .ok (.bl (!a.isEmpty)) h := by rw [cNe_pl q pl_nil, eqIV_fn]
/-- x in a list of plain things -/
theorem in_fz {x : IV} {ys : List IV} {h : IH} (hx : pl x = true) (hy : pl (.fz ys) = true) : cIn x (.fz ys) h = .ok (.bl (ys.any fun y => eqIV y x)) h ∨ (flat x = true ∧ ys.all flat = true) := by
  by_cases hf : flat x = true ∧ ys.all flat = true
  · exact .inr hf
  · refine .inl ?_
    unfold cIn inItems
    rw [o_items_f]
    dsimp only
    unfold pl at hx hy
    rw [Bool.and_eq_true] at hx hy
    rw [if_neg hf, twoD_dv (dp_mono (by decide) _ hx.2) (dp_mono (by decide) _ hy.2)]
    simp only [dv]
    congr 2
    rw [dvs_map, List.any_map]
    have hn := hy.1
    simp only [nbl, nbls_all, List.all_eq_true] at hn
    rw [Bool.eq_iff_iff, List.any_eq_true, List.any_eq_true]
    constructor
    · rintro ⟨y, m, q⟩
      exact ⟨y, m, by rw [← eqv_eqIV y x (hn y m) hx.1]; exact q⟩
    · rintro ⟨y, m, q⟩
      exact ⟨y, m, by show PyData.eqv (dv y) (dv x) = true; rw [eqv_eqIV y x (hn y m) hx.1]; exact q⟩
theorem mPop1_iz {h : IH} {k : Nat} {L : List Int} {d : Int} (hk : h[k]? = some (.lst (iz L))) (h0 : 0 ≤ d) (h1 : d < L.length) (h2 : d < 2 ^ 63) : mPop (.ref k) [.int d] h = .ok (.int (geti L d)) (h.set k (.lst (iz (L.eraseIdx d.toNat)))) := by
  unfold mPop
  dsimp only
  rw [hk]
  dsimp only
  rw [if_pos ⟨by omega, h2⟩]
  have e1 : seqIndex? d (iz L).length = some d.toNat := by
    unfold seqIndex?
    rw [List.length_map]
    simp only [show ¬ d < 0 by omega, if_false]
    simp; omega
  rw [e1]
  dsimp only
  have e2 : (iz L)[d.toNat]? = some (.int (geti L d)) := by
    rw [List.getElem?_map, List.getElem?_eq_getElem (by omega)]
    unfold geti
    rw [List.getD_eq_getElem?_getD, List.getElem?_eq_getElem (by omega)]
    rfl
  rw [e2]
  dsimp only
  rw [erase_map]
theorem iz_len (L : List Int) : (iz L).length = L.length := List.length_map ..
theorem iz_app (L M : List Int) : iz L ++ iz M = iz (L ++ M) := (List.map_append ..).symm
theorem iz_snoc (L : List Int) (x : Int) : iz L ++ [.int x] = iz (L ++ [x]) := iz_app L [x]
theorem iz_empty (L : List Int) : (iz L).isEmpty = L.isEmpty := by cases L <;> rfl
theorem iz_set (L : List Int) (i : Nat) (x : Int) : (iz L).set i (.int x) = iz (L.set i x) := by rw [iz, iz, List.map_set]
theorem iz_inj {L M : List Int} (h : iz L = iz M) : L = M := (List.map_inj_right (f := IV.int) fun _ _ e => by cases e; rfl).mp h
theorem rep_iz (n : Nat) (x : Int) : (List.replicate n [IV.int x]).flatten = iz (List.replicate n x) := by rw [rep_flat, iz, List.map_replicate]
end MM
/-! R6: the text of a value -/
namespace MM
open PySem L2
mutual
/-- leaves that are short -/
def sh : IV → Bool
  | .int i => decide (i.natAbs < 10 ^ 90)
  | .fz xs => shs xs
  | .tup xs => shs xs
  | .ref _ => false
  | _ => true
def shs : List IV → Bool
  | [] => true
  | x :: xs => sh x && shs xs
end
mutual
def bk : IV → Nat
  | .str s => s.cps.size
  | .fz xs => bks xs
  | .tup xs => bks xs
  | _ => 0
def bks : List IV → Nat
  | [] => 0
  | x :: xs => bk x + 1 + bks xs
end
mutual
theorem bk_dv : ∀ x : IV, (dv x).bulk = bk x
  | .non => rfl
  | .bl _ => rfl
  | .int _ => rfl
  | .str _ => rfl
  | .ref _ => rfl
  | .fz xs => by simp only [dv, PyData.bulk, bk]; exact bks_dv xs
  | .tup xs => by simp only [dv, PyData.bulk, bk]; exact bks_dv xs
theorem bks_dv : ∀ xs : List IV, PyData.bulkAll (dvs xs) = bks xs
  | [] => rfl
  | x :: xs => by simp only [dvs, PyData.bulkAll, bks, bk_dv x, bks_dv xs]
end
theorem int_sh {i : Int} (h : i.natAbs < 10 ^ 90) : (PyData.shown (.int i)).length ≤ 100 := by
  have e := int_text_length_le10 (k := 90) (by decide) h
  show (Str.ofString (toString i)).length ≤ 100
  have e2 : (Str.ofString (toString i)).length = (toString i).length := PySem.ofString_length _
  omega
theorem int_lg {i : Int} (h : i.natAbs < 10 ^ 90) : i.natAbs.log2 < 1920 := by
  by_cases h0 : i.natAbs = 0
  · rw [h0]; decide
  · exact (Nat.log2_lt h0).mpr (Nat.lt_of_lt_of_le h (by decide +kernel))
mutual
theorem sh_dv : ∀ (n : Nat) (x : IV), dp n x = true → sh x = true → (dv x).leavesShort 100 = true ∧ (dv x).showable = true
  | _, .non, _, _ => ⟨rfl, rfl⟩
  | _, .bl _, _, _ => ⟨rfl, rfl⟩
  | _, .ref _, d, _ => by simp [dp] at d
  | _, .int i, _, q => by
    simp only [sh, decide_eq_true_eq] at q
    exact ⟨by simp only [dv, PyData.leavesShort, decide_eq_true_eq]; exact int_sh q, by simp only [dv, PyData.showable, decide_eq_true_eq]; exact int_lg q⟩
  | _, .str s, d, _ => ⟨PyData.leavesShort_of_canLay0 100 (.str s) (by simpa only [PyData.canLay0, dp] using d) rfl, rfl⟩
  | 0, .fz xs, d, _ => by simp [dp] at d
  | 0, .tup xs, d, _ => by simp [dp] at d
  | n + 1, .fz xs, d, q => by
    simp only [dp] at d
    simp only [sh] at q
    have a := shs_dv n xs d q
    exact ⟨by simpa only [dv, PyData.leavesShort] using a.1, by simpa only [dv, PyData.showable] using a.2⟩
  | n + 1, .tup xs, d, q => by
    simp only [dp] at d
    simp only [sh] at q
    have a := shs_dv n xs d q
    exact ⟨by simpa only [dv, PyData.leavesShort] using a.1, by simpa only [dv, PyData.showable] using a.2⟩
theorem shs_dv : ∀ (n : Nat) (xs : List IV), dps n xs = true → shs xs = true → PyData.leavesShortAll 100 (dvs xs) = true ∧ PyData.showableAll (dvs xs) = true
  | _, [], _, _ => ⟨rfl, rfl⟩
  | n, x :: xs, d, q => by
    simp only [dps, Bool.and_eq_true] at d
    simp only [shs, Bool.and_eq_true] at q
    have a := sh_dv n x d.1 q.1
    have b := shs_dv n xs d.2 q.2
    exact ⟨by simp only [dvs, PyData.leavesShortAll, a.1, b.1, Bool.and_self], by simp only [dvs, PyData.showableAll, a.2, b.2, Bool.and_self]⟩
end
/-- what can be told as a text -/
structure Tl (x : IV) : Prop where
  dp : dp 64 x = true
  sh : sh x = true
  bk : bk x ≤ 100000
theorem Tl.len {x : IV} (t : Tl x) : (dv x).shown.length ≤ sizeLine := by
  have q := PyData.shown_le_bulk 100 (by decide) (dv x) (sh_dv 64 x t.dp t.sh).1
  rw [bk_dv] at q
  have := t.bk
  rw [sizeLine_eq]
  omega
theorem Tl.rpr {x : IV} (t : Tl x) (h : IH) : MM.rpr (dv x) h = .ok (.str (dv x).shown) h := by
  unfold MM.rpr
  rw [if_pos ⟨dv_shaped t.dp, (sh_dv 64 x t.dp t.sh).2, t.len⟩]
theorem repr_tl {x : IV} (t : Tl x) (h : IH) : reprK x h = .ok (.str (dv x).shown) h := by
  have td := toD_dv (h := h) 64 x t.dp
  cases x with
  | non => rfl
  | bl b => cases b <;> rfl
  | str s => exact if_pos t.len
  | ref k => exact absurd t.dp (by simp [MM.dp])
  | int i => exact if_pos (by have := t.sh; simp only [MM.sh, decide_eq_true_eq] at this; exact int_lg this)
  | fz xs => 
    show (match toD h 66 (.fz xs) with
    | some d => MM.rpr d h
    | none => .bad) = _
    rw [toD_dv (h := h) 65 (.fz xs) (dp_mono (by decide) _ t.dp)]
    exact t.rpr h
  | tup xs => 
    show (match toD h 66 (.tup xs) with
    | some d => MM.rpr d h
    | none => .bad) = _
    rw [toD_dv (h := h) 65 (.tup xs) (dp_mono (by decide) _ t.dp)]
    exact t.rpr h
theorem shs_all (xs : List IV) : shs xs = xs.all sh := by
  induction xs with
  | nil => rfl
  | cons x xs ih => rw [shs, ih]; rfl
theorem bks_le {B : Nat} : ∀ {xs : List IV}, (∀ x ∈ xs, bk x ≤ B) → bks xs ≤ xs.length * (B + 1)
  | [], _ => by simp [bks]
  | x :: xs, h => by
    have a := h x (List.mem_cons_self ..)
    have b := bks_le (B := B) fun x hx => h x (List.mem_cons_of_mem _ hx)
    simp only [bks, List.length_cons, Nat.add_mul, Nat.one_mul]
    omega
/-- depth n, size w -/
structure Tw (n w : Nat) (x : IV) : Prop where
  dp : MM.dp n x = true
  sh : MM.sh x = true
  bk : MM.bk x ≤ w
theorem Tw.tl {n w : Nat} {x : IV} (t : Tw n w x) (h1 : n ≤ 64) (h2 : w ≤ 100000) : Tl x := ⟨dp_mono h1 _ t.dp, t.sh, Nat.le_trans t.bk h2⟩
theorem Tw.mono {n w n' w' : Nat} {x : IV} (t : Tw n w x) (h1 : n ≤ n') (h2 : w ≤ w') : Tw n' w' x := ⟨dp_mono h1 _ t.dp, t.sh, Nat.le_trans t.bk h2⟩
theorem Tw.all {n w : Nat} {xs : List IV} (h : ∀ x ∈ xs, Tw n w x) : dps n xs = true ∧ shs xs = true ∧ bks xs ≤ xs.length * (w + 1) := by
  refine ⟨?_, ?_, bks_le fun x hx => (h x hx).bk⟩
  · rw [dps_all]; exact List.all_eq_true.mpr fun x hx => (h x hx).dp
  · rw [shs_all]; exact List.all_eq_true.mpr fun x hx => (h x hx).sh
theorem Tw.tup {n w : Nat} {xs : List IV} (h : ∀ x ∈ xs, Tw n w x) : Tw (n + 1) (xs.length * (w + 1)) (.tup xs) := by
  have a := Tw.all h
  exact ⟨by simpa only [MM.dp] using a.1, by simpa only [MM.sh] using a.2.1, by simpa only [MM.bk] using a.2.2⟩
theorem Tw.fz {n w : Nat} {xs : List IV} (h : ∀ x ∈ xs, Tw n w x) : Tw (n + 1) (xs.length * (w + 1)) (.fz xs) := by
  have a := Tw.all h
  exact ⟨by simpa only [MM.dp] using a.1, by simpa only [MM.sh] using a.2.1, by simpa only [MM.bk] using a.2.2⟩
theorem Tw.int {i : Int} (h : i.natAbs < 10 ^ 90) : Tw 0 0 (.int i) := ⟨by simp [MM.dp], by simp only [MM.sh, decide_eq_true_eq]; exact h, Nat.le_refl _⟩
theorem Tw.bl {b : Bool} : Tw 0 0 (.bl b) := ⟨by simp [MM.dp], rfl, Nat.le_refl _⟩
theorem Tw.non : Tw 0 0 .non := ⟨by simp [MM.dp], rfl, Nat.le_refl _⟩
theorem Tw.str {s : Str} (h : PyData.strOk s = true) : Tw 0 s.cps.size (.str s) := ⟨by simp only [MM.dp]; exact h, rfl, Nat.le_refl _⟩
theorem Tw.ints {xs : List Int} (h : ∀ x ∈ xs, x.natAbs < 10 ^ 90) : ∀ x ∈ iz xs, Tw 0 0 x := fun x hx => by
  obtain ⟨i, hi, rfl⟩ := List.mem_map.mp hx
  exact Tw.int (h i hi)
end MM

/-! R7: join, sorted -/
namespace MM
open PySem L2
theorem strsOf_strs : ∀ l : List Str, strsOf (l.map .str) = some l
  | [] => rfl
  | x :: xs => by
    have ih := strsOf_strs xs
    unfold strsOf at ih ⊢
    rw [List.map_cons, optAll, ih]
theorem wr_join {f : EM} {g : IEnv → IH → R (List IV)} {e : IEnv} {h : IH} {P : IV → IH → Prop} {X : XC → IH → Prop} : wr (eJoin f g e h) P X ↔ wr (f e h) (fun x h1 => ∃ a, x = .str a ∧ wr (g e h1) (fun xs h2 => ∃ ys, strsOf xs = some ys ∧ (ys.map (·.length)).sum + ys.length * a.length ≤ 16777216 ∧ P (.str (Txt.join a ys)) h2) X) X := by
  unfold eJoin
  rw [wr_bind]
  have z : ∀ (x : IV) (h1 : IH), wr (match x with
    | .str a => (g e h1).bind fun xs h2 => match strsOf xs with
      | some ys => if (ys.map (·.length)).sum + ys.length * a.length ≤ 16777216 then R.ok (IV.str (Txt.join a ys)) h2 else .bad
      | none => .bad
    | _ => .bad) P X ↔ ∃ a, x = .str a ∧ wr (g e h1) (fun xs h2 => ∃ ys, strsOf xs = some ys ∧ (ys.map (·.length)).sum + ys.length * a.length ≤ 16777216 ∧ P (.str (Txt.join a ys)) h2) X := fun x h1 => by
    cases x with
    | str a =>
      have z2 : ∀ (xs : List IV) (h2 : IH), wr (match strsOf xs with
        | some ys => if (ys.map (·.length)).sum + ys.length * a.length ≤ 16777216 then R.ok (IV.str (Txt.join a ys)) h2 else .bad
        | none => .bad) P X ↔ ∃ ys, strsOf xs = some ys ∧ (ys.map (·.length)).sum + ys.length * a.length ≤ 16777216 ∧ P (.str (Txt.join a ys)) h2 := fun xs h2 => by
        cases strsOf xs with
        | none => exact ⟨fun q => (wr_bad.mp q).elim, fun ⟨_, q, _⟩ => by cases q⟩
        | some ys =>
          dsimp only
          rw [wr_guard, wr_ok]
          exact ⟨fun q => ⟨ys, rfl, q⟩, fun ⟨_, q, p⟩ => by cases q; exact p⟩
      dsimp only
      rw [wr_bind]
      exact ⟨fun q => ⟨a, rfl, q.mono (fun _ _ w => (z2 _ _).mp w) fun _ _ w => w⟩, fun ⟨_, q, p⟩ => by cases q; exact p.mono (fun _ _ w => (z2 _ _).mpr w) fun _ _ w => w⟩
    | _ => exact ⟨fun q => (wr_bad.mp q).elim, fun ⟨_, q, _⟩ => by cases q⟩
  exact ⟨fun q => q.mono (fun _ _ w => (z _ _).mp w) fun _ _ w => w, fun q => q.mono (fun _ _ w => (z _ _).mpr w) fun _ _ w => w⟩
theorem srtK_t (ns : List Int) (h : IH) : srtK (.tup (iz ns)) h = .ok (iz (sortI ns)) h := by
  unfold srtK
  show (match intsOf (iz ns) with
    | some ns => R.ok (iz (sortI ns)) h
    | none => _) = _
  rw [intsOf_ints]
theorem srtK_f (ns : List Int) (h : IH) : srtK (.fz (iz ns)) h = .ok (iz (sortI ns)) h := by
  unfold srtK
  show (match intsOf (iz ns) with
    | some ns => R.ok (iz (sortI ns)) h
    | none => _) = _
  rw [intsOf_ints]
theorem wp_nox {r : RS} {K : Ks} : wp r.nox K ↔ wp r { K with ex := fun _ _ _ => False } := by
  cases r <;> exact ⟨fun q => ⟨q.po⟩, fun q => ⟨q.po⟩⟩
theorem wr_rev {f : EM} {e : IEnv} {h : IH} {P : IV → IH → Prop} {X : XC → IH → Prop} : wr (eRev f e h) P X ↔ wr (f e h) (fun x h1 => wr (revK x h1) P X) X := wr_bind
theorem wr_lrev_f {f : EM} {e : IEnv} {h h1 : IH} {xs : List IV} {k : Nat} {P : List IV → IH → Prop} {X : XC → IH → Prop} (hf : f e h = .ok (.ref k) h1) (hk : h1[k]? = some (.lst xs)) (p : P xs.reverse h1) : wr (lRev f e h) P X := by
  refine wr_of (a := xs.reverse) (h := h1) ?_ p
  unfold lRev
  rw [hf]
  dsimp only [R.bind]
  unfold items
  dsimp only
  rw [hk]
theorem revK_t {xs : List IV} {h : IH} : revK (.tup xs) h = .ok (.tup xs.reverse) h := rfl
theorem revK_f {xs : List IV} {h : IH} : revK (.fz xs) h = .ok (.fz xs.reverse) h := rfl
theorem revK_r {k : Nat} {h : IH} : revK (.ref k) h = match h[k]? with
    | some (.lst xs) => .ok (.fz xs.reverse) h
    | _ => .bad := by
  unfold revK
  dsimp only
  unfold items
  dsimp only
  cases hk : h[k]? with
  | none => rfl
  | some o => cases o <;> rfl
end MM

/-! R8 -/
namespace MM
open PySem L2
theorem wr_toV {f : EM} {e : IEnv} {h : IH} {P : Bool → IH → Prop} {X : XC → IH → Prop} : wr (toV f e h) P X ↔ wr (f e h) (fun x h1 => wr (match x with
  | .bl b => R.ok b h1
  | x => match itemsL h1 x with
    | some xs => R.ok (!xs.isEmpty) h1
    | none => .bad) P X) X := wr_bind
theorem mulT_i {i j : Int} {h : IH} : mulT (.int i) (.int j) h = mulK (.int i) (.int j) h := rfl
theorem mulT_t {xs : List IV} {k : Int} {h : IH} : mulT (.tup xs) (.int k) h = if k = 1 then .ok (.tup xs) h else mulK (.tup xs) (.int k) h := rfl
theorem mulT_s {a : Str} {k : Int} {h : IH} : mulT (.str a) (.int k) h = mulK (.str a) (.int k) h := rfl
end MM

/-! R9: more words -/
namespace MM
open PySem L2
theorem wp_asgT2 {f : EM} {a b : Nat} {e : IEnv} {h : IH} {K : Ks} : wp (sAsg f (gTp 2 (gCons' (gNm a) (gCons' (gNm b) gNil'))) e h) K ↔ wr (f e h) (fun v h1 => ∃ L, v = .tup L ∧ L.length = 2 ∧ ∃ x, L[0]? = some x ∧ ∃ y, L[1]? = some y ∧ K.nx ((e.set a (some x)).set b (some y)) h1) (fun x h => K.ex x e h) := by
  rw [wp_asg]
  refine wr_both fun v h1 => ?_
  constructor
  · rintro ⟨e2, h2, q, n⟩
    cases v with
    | tup L =>
      match L, q with
      | [x, y], q =>
        have q : some ((e.set a (some x)).set b (some y), h1) = some (e2, h2) := q
        cases q
        exact ⟨_, rfl, rfl, x, rfl, y, rfl, n⟩
      | [], q => exact absurd q (by intro z; cases z)
      | [x], q => exact absurd q (by intro z; cases z)
      | x :: y :: z :: r, q =>
        have : (if (x :: y :: z :: r).length = 2 then gCons' (gNm a) (gCons' (gNm b) gNil') (x :: y :: z :: r) e h1 else none) = some (e2, h2) := q
        rw [if_neg (by simp)] at this
        cases this
    | _ => exact absurd q (by intro z; cases z)
  · rintro ⟨L, rfl, hl, x, hx, y, hy, n⟩
    match L, hl, hx, hy with
    | [p, q], _, hx, hy =>
      cases hx; cases hy
      exact ⟨_, _, rfl, n⟩
theorem wp_asgT3 {f : EM} {a b c : Nat} {e : IEnv} {h : IH} {K : Ks} : wp (sAsg f (gTp 3 (gCons' (gNm a) (gCons' (gNm b) (gCons' (gNm c) gNil')))) e h) K ↔ wr (f e h) (fun v h1 => ∃ L, v = .tup L ∧ L.length = 3 ∧ ∃ x, L[0]? = some x ∧ ∃ y, L[1]? = some y ∧ ∃ z, L[2]? = some z ∧ K.nx (((e.set a (some x)).set b (some y)).set c (some z)) h1) (fun x h => K.ex x e h) := by
  rw [wp_asg]
  refine wr_both fun v h1 => ?_
  constructor
  · rintro ⟨e2, h2, q, n⟩
    cases v with
    | tup L =>
      match L, q with
      | [x, y, z], q =>
        have q : some (((e.set a (some x)).set b (some y)).set c (some z), h1) = some (e2, h2) := q
        cases q
        exact ⟨_, rfl, rfl, x, rfl, y, rfl, z, rfl, n⟩
      | [], q => exact absurd q (by intro z; cases z)
      | [x], q => exact absurd q (by intro z; cases z)
      | [x, y], q => exact absurd q (by intro z; cases z)
      | x :: y :: z :: u :: r, q =>
        have : (if (x :: y :: z :: u :: r).length = 3 then gCons' (gNm a) (gCons' (gNm b) (gCons' (gNm c) gNil')) (x :: y :: z :: u :: r) e h1 else none) = some (e2, h2) := q
        rw [if_neg (by simp)] at this
        cases this
    | _ => exact absurd q (by intro z; cases z)
  · rintro ⟨L, rfl, hl, x, hx, y, hy, z, hz, n⟩
    match L, hl, hx, hy, hz with
    | [p, q, r], _, hx, hy, hz =>
      cases hx; cases hy; cases hz
      exact ⟨_, _, rfl, n⟩
def rng2 (a b : Int) : List Int := (List.range (b - a).toNat).map fun (i : Nat) => a + (i : Int)
theorem lRange_rng2 (a b : Int) : lRange a b = iz (rng2 a b) := by unfold lRange rng2 iz; rw [List.map_map]; rfl
theorem rng2_len (a b : Int) : (rng2 a b).length = (b - a).toNat := by unfold rng2; simp
theorem rng2_mem {a b x : Int} : x ∈ rng2 a b ↔ a ≤ x ∧ x < b := by
  unfold rng2
  rw [List.mem_map]
  constructor
  · rintro ⟨i, hi, rfl⟩
    have := List.mem_range.mp hi
    omega
  · rintro ⟨h1, h2⟩
    exact ⟨(x - a).toNat, List.mem_range.mpr (by omega), by omega⟩
theorem rgOk2 {a b : Int} (h0 : -(2 ^ 20) ≤ a) (h1 : a ≤ 2 ^ 20) (h2 : -(2 ^ 20) ≤ b) (h3 : b ≤ 2 ^ 20) : rgOk a b = true := by
  unfold rgOk
  exact decide_eq_true (by omega)
theorem wr_rg2L {f g : EM} {e : IEnv} {h : IH} {P : List IV → IH → Prop} {X : XC → IH → Prop} : wr (lRg2 f g e h) P X ↔ wr (f e h) (fun x h1 => wr (g e h1) (fun y h2 => ∃ a, x = .int a ∧ ∃ b, y = .int b ∧ rgOk a b = true ∧ P (lRange a b) h2) X) X := by
  unfold lRg2
  rw [wr_bind]
  refine wr_both fun x h1 => ?_
  rw [wr_bind]
  refine wr_both fun y h2 => ?_
  cases x with
  | int i =>
    cases y with
    | int j => exact ⟨fun q => ⟨i, rfl, j, rfl, (wr_guard.mp q).1, wr_ok.mp (wr_guard.mp q).2⟩, fun ⟨_, q, _, q2, p⟩ => by cases q; cases q2; exact wr_guard.mpr ⟨p.1, wr_ok.mpr p.2⟩⟩
    | _ => exact ⟨fun q => (wr_bad.mp q).elim, fun ⟨_, _, _, q, _⟩ => by cases q⟩
  | _ => exact ⟨fun q => (wr_bad.mp q).elim, fun ⟨_, q, _⟩ => by cases q⟩
theorem mIns_eq {k : Nat} {i : Int} {y : IV} {h : IH} : mInsert (.ref k) [.int i, y] h = match h[k]? with
    | some (.lst xs) => if xs.length < sizeLine ∧ 0 ≤ i ∧ i < 2 ^ 63 then .ok .non (h.set k (.lst (xs.take i.toNat ++ [y] ++ xs.drop i.toNat))) else .bad
    | _ => .bad := rfl
theorem wr_repV {f g : EM} {e : IEnv} {h : IH} {P : List IV → IH → Prop} {X : XC → IH → Prop} : wr (lRepV f g e h) P X ↔ wr (f e h) (fun x h1 => wr (g e h1) (fun y h2 => wr (repK x y h2) P X) X) X := by
  unfold lRepV
  rw [wr_bind]
  exact wr_both fun x h1 => wr_bind
theorem repK_f {xs : List IV} {k : Int} {h : IH} : repK (.fz xs) (.int k) h = if -(2 ^ 63) ≤ k ∧ k < 2 ^ 63 ∧ xs.length * k.toNat ≤ sizeLine then .ok (List.replicate k.toNat xs).flatten h else .bad := rfl
theorem o_is2_n {x : IV} {h : IH} : cIs2 x .non h = .ok (.bl (isN x)) h := by cases x <;> rfl
theorem o_isnt2_n {x : IV} {h : IH} : cIsnt2 x .non h = .ok (.bl (!isN x)) h := by cases x <;> rfl
theorem o_is2_b {p q : Bool} {h : IH} : cIs2 (.bl p) (.bl q) h = .ok (.bl (decide (p = q))) h := rfl
theorem o_isnt2_b {p q : Bool} {h : IH} : cIsnt2 (.bl p) (.bl q) h = .ok (.bl (!decide (p = q))) h := rfl
theorem o_is2_i {i : Int} {q : Bool} {h : IH} : cIs2 (.int i) (.bl q) h = .ok (.bl false) h := rfl
theorem o_is2_s {i : Str} {q : Bool} {h : IH} : cIs2 (.str i) (.bl q) h = .ok (.bl false) h := rfl
theorem o_is2_t {i : List IV} {q : Bool} {h : IH} : cIs2 (.tup i) (.bl q) h = .ok (.bl false) h := rfl
theorem o_is2_f {i : List IV} {q : Bool} {h : IH} : cIs2 (.fz i) (.bl q) h = .ok (.bl false) h := rfl
theorem o_is2_o {q : Bool} {h : IH} : cIs2 .non (.bl q) h = .ok (.bl false) h := rfl
end MM
namespace MM
open PySem L2
section
variable {α : Type} {P : α → IH → Prop} {X : XC → IH → Prop} {K : Ks} {e : IEnv} {h : IH}
theorem ite_pp {p A B : Prop} [Decidable p] : (if p then A else B) ↔ (p → A) ∧ (¬ p → B) := by
  by_cases hp : p <;> simp [hp]
theorem bpp {b : Bool} {A B : Prop} : ((b = true → A) ∧ (b = false → B)) ↔ if b = true then A else B := by cases b <;> simp
theorem wp_ifI {c : IEnv → IH → R Bool} {f g : SM} : wp (sIf c f g e h) K ↔ wr (c e h) (fun b h1 => if b = true then wp (f e h1) K else wp (g e h1) K) (fun x h => K.ex x e h) := by
  rw [wp_if]; exact wr_both fun _ _ => bpp
theorem wr_andI {f g : IEnv → IH → R Bool} {P : Bool → IH → Prop} : wr (tAndM f g e h) P X ↔ wr (f e h) (fun b h1 => if b = true then wr (g e h1) P X else P false h1) X := by
  rw [wr_and]; exact wr_both fun _ _ => bpp
theorem wr_orI {f g : IEnv → IH → R Bool} {P : Bool → IH → Prop} : wr (tOrM f g e h) P X ↔ wr (f e h) (fun b h1 => if b = true then P true h1 else wr (g e h1) P X) X := by
  rw [wr_or]; exact wr_both fun _ _ => bpp
theorem wr_eAndI {f g : EM} {P : IV → IH → Prop} : wr (eAnd f g e h) P X ↔ wr (f e h) (fun x h1 => ∃ b, x = .bl b ∧ if b = true then wr (g e h1) P X else P (.bl false) h1) X := by
  rw [wr_eAnd]; exact wr_both fun _ _ => exists_congr fun _ => and_congr_right fun _ => bpp
theorem wr_eOrI {f g : EM} {P : IV → IH → Prop} : wr (eOr f g e h) P X ↔ wr (f e h) (fun x h1 => ∃ b, x = .bl b ∧ if b = true then P (.bl true) h1 else wr (g e h1) P X) X := by
  rw [wr_eOr]; exact wr_both fun _ _ => exists_congr fun _ => and_congr_right fun _ => bpp
theorem wr_eIfI {c : IEnv → IH → R Bool} {f g : EM} {P : IV → IH → Prop} : wr (eIf c f g e h) P X ↔ wr (c e h) (fun b h1 => if b = true then wr (f e h1) P X else wr (g e h1) P X) X := by
  rw [wr_eIf]; exact wr_both fun _ _ => bpp
theorem wr_chainI {o o' : IV → IV → IH → R IV} {f g k : EM} {P : IV → IH → Prop} : wr (eChain o o' f g k e h) P X ↔ wr (f e h) (fun x h1 => wr (g e h1) (fun y h2 => wr (o x y h2) (fun z h3 => ∃ b, z = .bl b ∧ if b = true then wr (k e h3) (fun w h4 => wr (o' y w h4) P X) X else P (.bl false) h3) X) X) X := by
  rw [wr_chain]; exact wr_both fun _ _ => wr_both fun _ _ => wr_both fun _ _ => exists_congr fun _ => and_congr_right fun _ => bpp
end
end MM

/-! R10: continuations are not looked into -/
namespace MM
open PySem L2
structure TgR {α : Type} (P : α → IH → Prop) (X : XC → IH → Prop) : Type where
structure TgK (K : Ks) : Type where
structure TgQ {α : Type} (Q : α → Prop) : Type where
def wrT {α : Type} (r : R α) (P : α → IH → Prop) (X : XC → IH → Prop) (_ : TgR P X) : Prop := wr r P X
def wpT (r : RS) (K : Ks) (_ : TgK K) : Prop := wp r K
def pO {α : Type} (o : Option α) (Q : α → Prop) (_ : TgQ Q) : Prop := ∃ v, o = some v ∧ Q v
def pE (o : Option (Option IV)) (Q : IV → Prop) (_ : TgQ Q) : Prop := ∃ v, o = some (some v) ∧ Q v
def pL (o : Option IO) (Q : List IV → Prop) (_ : TgQ Q) : Prop := ∃ v, o = some (.lst v) ∧ Q v
def pB (x : IV) (Q : Bool → Prop) (_ : TgQ Q) : Prop := ∃ v, x = .bl v ∧ Q v
def pI (x : IV) (Q : Int → Prop) (_ : TgQ Q) : Prop := ∃ v, x = .int v ∧ Q v
def pR (x : IV) (Q : Nat → Prop) (_ : TgQ Q) : Prop := ∃ v, x = .ref v ∧ Q v
def pT (x : IV) (Q : List IV → Prop) (_ : TgQ Q) : Prop := ∃ v, x = .tup v ∧ Q v
def pS (x : IV) (Q : Str → Prop) (_ : TgQ Q) : Prop := ∃ v, x = .str v ∧ Q v
section
variable {α : Type}
theorem pO_some {v : α} {Q : α → Prop} {t : TgQ Q} : pO (some v) Q t ↔ Q v := ⟨fun ⟨_, e, q⟩ => by cases e; exact q, fun q => ⟨_, rfl, q⟩⟩
theorem pE_some {v : IV} {Q : IV → Prop} {t : TgQ Q} : pE (some (some v)) Q t ↔ Q v := ⟨fun ⟨_, e, q⟩ => by cases e; exact q, fun q => ⟨_, rfl, q⟩⟩
theorem pL_some {v : List IV} {Q : List IV → Prop} {t : TgQ Q} : pL (some (.lst v)) Q t ↔ Q v := ⟨fun ⟨_, e, q⟩ => by cases e; exact q, fun q => ⟨_, rfl, q⟩⟩
theorem pB_bl {v : Bool} {Q : Bool → Prop} {t : TgQ Q} : pB (.bl v) Q t ↔ Q v := ⟨fun ⟨_, e, q⟩ => by cases e; exact q, fun q => ⟨_, rfl, q⟩⟩
theorem pI_int {v : Int} {Q : Int → Prop} {t : TgQ Q} : pI (.int v) Q t ↔ Q v := ⟨fun ⟨_, e, q⟩ => by cases e; exact q, fun q => ⟨_, rfl, q⟩⟩
theorem pR_ref {v : Nat} {Q : Nat → Prop} {t : TgQ Q} : pR (.ref v) Q t ↔ Q v := ⟨fun ⟨_, e, q⟩ => by cases e; exact q, fun q => ⟨_, rfl, q⟩⟩
theorem pT_tup {v : List IV} {Q : List IV → Prop} {t : TgQ Q} : pT (.tup v) Q t ↔ Q v := ⟨fun ⟨_, e, q⟩ => by cases e; exact q, fun q => ⟨_, rfl, q⟩⟩
theorem pS_str {v : Str} {Q : Str → Prop} {t : TgQ Q} : pS (.str v) Q t ↔ Q v := ⟨fun ⟨_, e, q⟩ => by cases e; exact q, fun q => ⟨_, rfl, q⟩⟩
end
theorem wr_toT {α : Type} {r : R α} {P : α → IH → Prop} {X : XC → IH → Prop} (q : wrT r P X ⟨⟩) : wr r P X := q
theorem wp_toT {r : RS} {K : Ks} (q : wpT r K ⟨⟩) : wp r K := q
section
variable {α β : Type} {K : Ks} {tk : TgK K} {e : IEnv} {h : IH} {X : XC → IH → Prop}
theorem t_seq {f g : SM} : wpT (sSeq f g e h) K tk ↔ wpT (f e h) { K with nx := fun e1 h1 => wpT (g e1 h1) K ⟨⟩ } ⟨⟩ := wp_seq
theorem t_nil  : wpT (sNil e h) K tk ↔ K.nx e h := wp_nil
theorem t_asgN {f : EM} {i : Nat} : wpT (sAsg f (gNm i) e h) K tk ↔ wrT (f e h) (fun v h1 => K.nx (e.set i (some v)) h1) (fun x h => K.ex x e h) ⟨⟩ := wp_asgN
theorem t_ret {f : EM} : wpT (sRet f e h) K tk ↔ wrT (f e h) K.rt (fun x h => K.ex x e h) ⟨⟩ := wp_ret
theorem t_retN  : wpT (sRetN e h) K tk ↔ K.rt .non h := wp_retN
theorem t_brk  : wpT (sBrk e h) K tk ↔ K.bk e h := wp_brk
theorem t_cont  : wpT (sCont e h) K tk ↔ K.ct e h := wp_cont
theorem t_expr {f : EM} : wpT (sExpr f e h) K tk ↔ wrT (f e h) (fun _ h1 => K.nx e h1) (fun x h => K.ex x e h) ⟨⟩ := wp_expr
theorem t_if {c : IEnv → IH → R Bool} {f g : SM} : wpT (sIf c f g e h) K tk ↔ wrT (c e h) (fun b h1 => if b = true then wpT (f e h1) K ⟨⟩ else wpT (g e h1) K ⟨⟩) (fun x h => K.ex x e h) ⟨⟩ := wp_ifI
theorem t_par {is : List Nat} {f : IEnv → IH → R (List IV)} : wpT (sPar is f e h) K tk ↔ wrT (f e h) (fun vs h1 => vs.length = is.length ∧ K.nx ((is.zip vs).foldl (fun e p => e.set p.1 (some p.2)) e) h1) (fun x h => K.ex x e h) ⟨⟩ := wp_par
theorem t_aug {i : Nat} {o : IV → IV → IH → R IV} {f : EM} : wpT (sAug i o f e h) K tk ↔ wrT (eVar i e h) (fun x _ => wrT (f e h) (fun y h1 => wrT (o x y h1) (fun z h2 => K.nx (e.set i (some z)) h2) (fun x h => K.ex x e h) ⟨⟩) (fun x h => K.ex x e h) ⟨⟩) (fun x h => K.ex x e h) ⟨⟩ := wp_aug
theorem t_raise {c : Nat} : wpT (sRaise c e h) K tk ↔ K.ex ⟨c, none⟩ e h := wp_raise
theorem t_for {it : ItM} {g : GM} {b : SM} : wpT (sFor it g b e h) K tk ↔ wrT (it e h) (fun p h1 => wpT (forM p.2 g b p.1 e h1) K ⟨⟩) (fun x h => K.ex x e h) ⟨⟩ := wp_for
theorem t_asgT2 {f : EM} {a b : Nat} : wpT (sAsg f (gTp 2 (gCons' (gNm a) (gCons' (gNm b) gNil'))) e h) K tk ↔ wrT (f e h) (fun v h1 => pT v (fun L => L.length = 2 ∧ pO (L[0]?) (fun x => pO (L[1]?) (fun y => K.nx ((e.set a (some x)).set b (some y)) h1) ⟨⟩) ⟨⟩) ⟨⟩) (fun x h => K.ex x e h) ⟨⟩ := wp_asgT2
theorem t_asgT3 {f : EM} {a b c : Nat} : wpT (sAsg f (gTp 3 (gCons' (gNm a) (gCons' (gNm b) (gCons' (gNm c) gNil')))) e h) K tk ↔ wrT (f e h) (fun v h1 => pT v (fun L => L.length = 3 ∧ pO (L[0]?) (fun x => pO (L[1]?) (fun y => pO (L[2]?) (fun z => K.nx (((e.set a (some x)).set b (some y)).set c (some z)) h1) ⟨⟩) ⟨⟩) ⟨⟩) ⟨⟩) (fun x h => K.ex x e h) ⟨⟩ := wp_asgT3
theorem t_asgVK {f : EM} {i : Nat} {v : IV} : wpT (sAsg f (gSb (eVar i) (eK v)) e h) K tk ↔ wrT (f e h) (fun w' h1 => wrT (eVar i e h1) (fun x h2 => pR x (fun k => wrT (eK v e h2) (fun y h3 => pI y (fun j => pL (h3[k]?) (fun xs => pO (ixN xs.length j) (fun n => K.nx e (h3.set k (.lst (xs.set n w')))) ⟨⟩) ⟨⟩) ⟨⟩) (fun _ _ => False) ⟨⟩) ⟨⟩) (fun _ _ => False) ⟨⟩) (fun x h => K.ex x e h) ⟨⟩ := wp_asgVK
theorem t_asgVV {f : EM} {i : Nat} {j : Nat} : wpT (sAsg f (gSb (eVar i) (eVar j)) e h) K tk ↔ wrT (f e h) (fun w' h1 => wrT (eVar i e h1) (fun x h2 => pR x (fun k => wrT (eVar j e h2) (fun y h3 => pI y (fun j => pL (h3[k]?) (fun xs => pO (ixN xs.length j) (fun n => K.nx e (h3.set k (.lst (xs.set n w')))) ⟨⟩) ⟨⟩) ⟨⟩) (fun _ _ => False) ⟨⟩) ⟨⟩) (fun _ _ => False) ⟨⟩) (fun x h => K.ex x e h) ⟨⟩ := wp_asgVV
theorem t_asgVI {f : EM} {i : Nat} {a b : Nat} : wpT (sAsg f (gSb (eVar i) (eIx (eVar a) (eVar b))) e h) K tk ↔ wrT (f e h) (fun w' h1 => wrT (eVar i e h1) (fun x h2 => pR x (fun k => wrT (eIx (eVar a) (eVar b) e h2) (fun y h3 => pI y (fun j => pL (h3[k]?) (fun xs => pO (ixN xs.length j) (fun n => K.nx e (h3.set k (.lst (xs.set n w')))) ⟨⟩) ⟨⟩) ⟨⟩) (fun _ _ => False) ⟨⟩) ⟨⟩) (fun _ _ => False) ⟨⟩) (fun x h => K.ex x e h) ⟨⟩ := wp_asgVI
theorem t_var {i : Nat} {P : IV → IH → Prop} {t : TgR P X} : wrT (eVar i e h) P X t ↔ pE (e[i]?) (fun v => P v h) ⟨⟩ := wr_var
theorem t_k {v : IV} {P : IV → IH → Prop} {t : TgR P X} : wrT (eK v e h) P X t ↔ P v h := wr_k
theorem t_e1 {o : IV → IH → R IV} {f : EM} {P : IV → IH → Prop} {t : TgR P X} : wrT (e1 o f e h) P X t ↔ wrT (f e h) (fun x h1 => wrT (o x h1) (P) X ⟨⟩) X ⟨⟩ := wr_e1
theorem t_e2 {o : IV → IV → IH → R IV} {f g : EM} {P : IV → IH → Prop} {t : TgR P X} : wrT (e2 o f g e h) P X t ↔ wrT (f e h) (fun x h1 => wrT (g e h1) (fun y h2 => wrT (o x y h2) (P) X ⟨⟩) X ⟨⟩) X ⟨⟩ := wr_e2
theorem t_aNil  {P : List IV → IH → Prop} {t : TgR P X} : wrT (aNil e h) P X t ↔ P [] h := wr_aNil
theorem t_aCons {f : EM} {g : IEnv → IH → R (List IV)} {P : List IV → IH → Prop} {t : TgR P X} : wrT (aCons f g e h) P X t ↔ wrT (f e h) (fun x h1 => wrT (g e h1) (fun xs h2 => P (x :: xs) h2) X ⟨⟩) X ⟨⟩ := wr_aCons
theorem t_c {F : FM} {f : IEnv → IH → R (List IV)} {P : IV → IH → Prop} {t : TgR P X} : wrT (eC F f e h) P X t ↔ wrT (f e h) (fun vs h1 => wrT (F vs h1) (P) X ⟨⟩) X ⟨⟩ := wr_c
theorem t_ck {F : FM} {ix : List Nat} {f g : IEnv → IH → R (List IV)} {P : IV → IH → Prop} {t : TgR P X} : wrT (eCK F ix f g e h) P X t ↔ wrT (f e h) (fun xs h1 => wrT (g e h1) (fun ys h2 => wrT (F (pick ix (xs ++ ys)) h2) (P) X ⟨⟩) X ⟨⟩) X ⟨⟩ := wr_ck
theorem t_tup {f : IEnv → IH → R (List IV)} {P : IV → IH → Prop} {t : TgR P X} : wrT (eTup f e h) P X t ↔ wrT (f e h) (fun xs h1 => xs.length ≤ sizeLine ∧ P (.tup xs) h1) X ⟨⟩ := wr_tup
theorem t_lst {f : IEnv → IH → R (List IV)} {P : List IV → IH → Prop} {t : TgR P X} : wrT (lLst f e h) P X t ↔ wrT (f e h) (fun xs h1 => xs.length ≤ sizeLine ∧ P xs h1) X ⟨⟩ := wr_lst
theorem t_fz {f : IEnv → IH → R (List IV)} {P : IV → IH → Prop} {t : TgR P X} : wrT (eFz f e h) P X t ↔ wrT (f e h) (fun xs h1 => P (.fz xs) h1) X ⟨⟩ := wr_fz
theorem t_new {f : IEnv → IH → R (List IV)} {P : IV → IH → Prop} {t : TgR P X} : wrT (eNew f e h) P X t ↔ wrT (f e h) (fun xs h1 => P (.ref h1.length) (h1 ++ [.lst xs])) X ⟨⟩ := wr_new
theorem t_tuple {f : IEnv → IH → R (List IV)} {P : IV → IH → Prop} {t : TgR P X} : wrT (eTuple f e h) P X t ↔ wrT (f e h) (fun xs h1 => P (.tup xs) h1) X ⟨⟩ := wr_tuple
theorem t_len {f : IEnv → IH → R (List IV)} {P : IV → IH → Prop} {t : TgR P X} : wrT (eLen f e h) P X t ↔ wrT (f e h) (fun xs h1 => P (.int xs.length) h1) X ⟨⟩ := wr_len
theorem t_lId {f : IEnv → IH → R (List IV)} {P : List IV → IH → Prop} {t : TgR P X} : wrT (lId f e h) P X t ↔ wrT (f e h) (P) X ⟨⟩ := wr_lId
theorem t_qV {f : EM} {P : List IV → IH → Prop} {t : TgR P X} : wrT (qV f e h) P X t ↔ wrT (f e h) (fun x h1 => pO (items h1 x) (fun xs => P xs h1) ⟨⟩) X ⟨⟩ := wr_qV
theorem t_qLV {f : EM} {P : List IV → IH → Prop} {t : TgR P X} : wrT (qLV f e h) P X t ↔ wrT (f e h) (fun x h1 => pO (itemsL h1 x) (fun xs => P xs h1) ⟨⟩) X ⟨⟩ := wr_qLV
theorem t_lenV {f : EM} {P : IV → IH → Prop} {t : TgR P X} : wrT (eLenV f e h) P X t ↔ wrT (f e h) (fun x h1 => wrT (lenK x h1) (P) X ⟨⟩) X ⟨⟩ := wr_lenV
theorem t_ix {f g : EM} {P : IV → IH → Prop} {t : TgR P X} : wrT (eIx f g e h) P X t ↔ wrT (f e h) (fun x h1 => wrT (g e h1) (fun y h2 => wrT (match x with | .str s => bIxS (.str s) y h2 | x => bIx x y h2) (P) X ⟨⟩) X ⟨⟩) X ⟨⟩ := wr_ix
theorem t_oN  {P : Option Int → IH → Prop} {t : TgR P X} : wrT (oN e h) P X t ↔ P none h := wr_oN
theorem t_oS {f : EM} {P : Option Int → IH → Prop} {t : TgR P X} : wrT (oS f e h) P X t ↔ wrT (f e h) (fun x h1 => pI x (fun i => P (some i) h1) ⟨⟩) X ⟨⟩ := wr_oS
theorem t_cut {f : EM} {l u : IEnv → IH → R (Option Int)} {P : IV → IH → Prop} {t : TgR P X} : wrT (eCut f l u e h) P X t ↔ wrT (f e h) (fun x h1 => wrT (l e h1) (fun a h2 => wrT (u e h2) (fun b h3 => wrT (match x with | .str s => if s.length ≤ sizeLine then .ok (.str (cutS s a b)) h3 else .bad | .tup xs => .ok (.tup (cut xs a b)) h3 | x => match items h3 x with | some xs => .ok (.fz (cut xs a b)) h3 | none => .bad) (P) X ⟨⟩) X ⟨⟩) X ⟨⟩) X ⟨⟩ := wr_cut
theorem t_toB {f : EM} {P : Bool → IH → Prop} {t : TgR P X} : wrT (toB f e h) P X t ↔ wrT (f e h) (fun x h1 => pB x (fun b => P b h1) ⟨⟩) X ⟨⟩ := wr_toB
theorem t_and {f g : IEnv → IH → R Bool} {P : Bool → IH → Prop} {t : TgR P X} : wrT (tAndM f g e h) P X t ↔ wrT (f e h) (fun b h1 => if b = true then wrT (g e h1) (P) X ⟨⟩ else P false h1) X ⟨⟩ := wr_andI
theorem t_or {f g : IEnv → IH → R Bool} {P : Bool → IH → Prop} {t : TgR P X} : wrT (tOrM f g e h) P X t ↔ wrT (f e h) (fun b h1 => if b = true then P true h1 else wrT (g e h1) (P) X ⟨⟩) X ⟨⟩ := wr_orI
theorem t_not {f : IEnv → IH → R Bool} {P : Bool → IH → Prop} {t : TgR P X} : wrT (tNotM f e h) P X t ↔ wrT (f e h) (fun b h1 => P (!b) h1) X ⟨⟩ := wr_not
theorem t_eAnd {f g : EM} {P : IV → IH → Prop} {t : TgR P X} : wrT (eAnd f g e h) P X t ↔ wrT (f e h) (fun x h1 => pB x (fun b => if b = true then wrT (g e h1) (P) X ⟨⟩ else P (.bl false) h1) ⟨⟩) X ⟨⟩ := wr_eAndI
theorem t_eOr {f g : EM} {P : IV → IH → Prop} {t : TgR P X} : wrT (eOr f g e h) P X t ↔ wrT (f e h) (fun x h1 => pB x (fun b => if b = true then P (.bl true) h1 else wrT (g e h1) (P) X ⟨⟩) ⟨⟩) X ⟨⟩ := wr_eOrI
theorem t_eNot {f : EM} {P : IV → IH → Prop} {t : TgR P X} : wrT (eNot f e h) P X t ↔ wrT (f e h) (fun x h1 => pB x (fun b => P (.bl !b) h1) ⟨⟩) X ⟨⟩ := wr_eNot
theorem t_eIf {c : IEnv → IH → R Bool} {f g : EM} {P : IV → IH → Prop} {t : TgR P X} : wrT (eIf c f g e h) P X t ↔ wrT (c e h) (fun b h1 => if b = true then wrT (f e h1) (P) X ⟨⟩ else wrT (g e h1) (P) X ⟨⟩) X ⟨⟩ := wr_eIfI
theorem t_chain {o o' : IV → IV → IH → R IV} {f g k : EM} {P : IV → IH → Prop} {t : TgR P X} : wrT (eChain o o' f g k e h) P X t ↔ wrT (f e h) (fun x h1 => wrT (g e h1) (fun y h2 => wrT (o x y h2) (fun z h3 => pB z (fun b => if b = true then wrT (k e h3) (fun w h4 => wrT (o' y w h4) (P) X ⟨⟩) X ⟨⟩ else P (.bl false) h3) ⟨⟩) X ⟨⟩) X ⟨⟩) X ⟨⟩ := wr_chainI
theorem t_mth {o : IV → List IV → IH → R IV} {f : EM} {g : IEnv → IH → R (List IV)} {P : IV → IH → Prop} {t : TgR P X} : wrT (eMth o f g e h) P X t ↔ wrT (f e h) (fun x h1 => pR x (fun k => pL (h1[k]?) (fun _ => wrT (g e h1) (fun ys h2 => wrT (o x ys h2) (P) X ⟨⟩) X ⟨⟩) ⟨⟩) ⟨⟩) X ⟨⟩ := wr_mth'
theorem t_mth0 {o : IV → List IV → IH → R IV} {f : EM} {P : IV → IH → Prop} {t : TgR P X} : wrT (eMth0 o f e h) P X t ↔ wrT (f e h) (fun x h1 => pR x (fun k => pL (h1[k]?) (fun _ => wrT (o x [] h1) (P) X ⟨⟩) ⟨⟩) ⟨⟩) X ⟨⟩ := wr_mth0'
theorem t_ints {g : List Int → Option Int} {f : IEnv → IH → R (List IV)} {P : IV → IH → Prop} {t : TgR P X} : wrT (eInts g f e h) P X t ↔ wrT (f e h) (fun xs h1 => pO (intsOf xs) (fun ns => pO (g ns) (fun i => P (.int i) h1) ⟨⟩) ⟨⟩) X ⟨⟩ := wr_ints'
theorem t_bls {g : List Bool → Bool} {f : IEnv → IH → R (List IV)} {P : IV → IH → Prop} {t : TgR P X} : wrT (eBls g f e h) P X t ↔ wrT (f e h) (fun xs h1 => pO (blsOf xs) (fun ns => P (.bl (g ns)) h1) ⟨⟩) X ⟨⟩ := wr_bls
theorem t_catV {f g : EM} {P : List IV → IH → Prop} {t : TgR P X} : wrT (lCatV f g e h) P X t ↔ wrT (f e h) (fun x h1 => wrT (g e h1) (fun y h2 => wrT (catK x y h2) (P) X ⟨⟩) X ⟨⟩) X ⟨⟩ := wr_catV
theorem t_rep {f : IEnv → IH → R (List IV)} {g : EM} {P : List IV → IH → Prop} {t : TgR P X} : wrT (lRep f g e h) P X t ↔ wrT (f e h) (fun xs h1 => wrT (g e h1) (fun y h2 => pI y (fun k => (-(2 ^ 63) ≤ k ∧ k < 2 ^ 63 ∧ xs.length * k.toNat ≤ sizeLine) ∧ P (List.replicate k.toNat xs).flatten h2) ⟨⟩) X ⟨⟩) X ⟨⟩ := wr_rep
theorem t_rg1L {f : EM} {P : List IV → IH → Prop} {t : TgR P X} : wrT (lRg1 f e h) P X t ↔ wrT (f e h) (fun x h1 => pI x (fun n => rgOk 0 n = true ∧ P (lRange 0 n) h1) ⟨⟩) X ⟨⟩ := wr_rg1L
theorem t_rg2L {f g : EM} {P : List IV → IH → Prop} {t : TgR P X} : wrT (lRg2 f g e h) P X t ↔ wrT (f e h) (fun x h1 => wrT (g e h1) (fun y h2 => pI x (fun a => pI y (fun b => rgOk a b = true ∧ P (lRange a b) h2) ⟨⟩) ⟨⟩) X ⟨⟩) X ⟨⟩ := wr_rg2L
theorem t_srt {f : EM} {P : List IV → IH → Prop} {t : TgR P X} : wrT (lSrt f e h) P X t ↔ wrT (f e h) (fun x h1 => wrT (srtK x h1) (P) X ⟨⟩) X ⟨⟩ := wr_srt
theorem t_idx {f : EM} {g : IEnv → IH → R (List IV)} {P : IV → IH → Prop} {t : TgR P X} : wrT (eIdx f g e h) P X t ↔ wrT (f e h) (fun x h1 => wrT (idxK g e x h1) (P) X ⟨⟩) X ⟨⟩ := wr_idx
theorem t_sset {f : IEnv → IH → R (List IV)} {P : List IV → IH → Prop} {t : TgR P X} : wrT (lSortSet f e h) P X t ↔ wrT (f e h) (fun xs h1 => pO (intsOf xs) (fun ns => ns.length < 60 ∧ P ((sortU ns).map .int) h1) ⟨⟩) X ⟨⟩ := wr_sset
theorem t_iSeq {f : EM} {P : List IV × (IH → Bool) → IH → Prop} {t : TgR P X} : wrT (iSeq f e h) P X t ↔ wrT (f e h) (fun x h1 => wrT (seqK x h1) (P) X ⟨⟩) X ⟨⟩ := wr_iSeq
theorem t_iEnum {f : EM} {P : List IV × (IH → Bool) → IH → Prop} {t : TgR P X} : wrT (iEnumV f e h) P X t ↔ wrT (f e h) (fun x h1 => wrT (enumK x h1) (P) X ⟨⟩) X ⟨⟩ := wr_iEnum
theorem t_iFresh {f : IEnv → IH → R (List IV)} {P : List IV × (IH → Bool) → IH → Prop} {t : TgR P X} : wrT (iFresh f e h) P X t ↔ wrT (f e h) (fun xs h1 => P (xs, fun _ => true) h1) X ⟨⟩ := wr_iFresh
theorem t_iRg1 {f : EM} {P : List IV × (IH → Bool) → IH → Prop} {t : TgR P X} : wrT (iRg1 f e h) P X t ↔ wrT (f e h) (fun x h1 => pI x (fun n => rgOk 0 n = true ∧ P (lRange 0 n, fun _ => true) h1) ⟨⟩) X ⟨⟩ := wr_iRg1
theorem t_iRg2 {f g : EM} {P : List IV × (IH → Bool) → IH → Prop} {t : TgR P X} : wrT (iRg2 f g e h) P X t ↔ wrT (f e h) (fun x h1 => wrT (g e h1) (fun y h2 => pI x (fun a => pI y (fun b => rgOk a b = true ∧ P (lRange a b, fun _ => true) h2) ⟨⟩) ⟨⟩) X ⟨⟩) X ⟨⟩ := wr_iRg2'
theorem t_lc {own : List Nat} {it : ItM} {g : GM} {c : IEnv → IH → R Bool} {f : EM} {P : List IV → IH → Prop} {t : TgR P X} : wrT (lLc own it g c f e h) P X t ↔ wrT (it e h) (fun p h1 => p.1.length ≤ sizeLine ∧ wrT (lcM p.2 g c f (wipeE e own) p.1 h1) (P) X ⟨⟩) X ⟨⟩ := wr_lc
theorem t_toV {f : EM} {P : Bool → IH → Prop} {t : TgR P X} : wrT (toV f e h) P X t ↔ wrT (f e h) (fun x h1 => wrT (match x with | .bl b => R.ok b h1 | x => match itemsL h1 x with | some xs => R.ok (!xs.isEmpty) h1 | none => .bad) (P) X ⟨⟩) X ⟨⟩ := wr_toV
theorem t_rev {f : EM} {P : IV → IH → Prop} {t : TgR P X} : wrT (eRev f e h) P X t ↔ wrT (f e h) (fun x h1 => wrT (revK x h1) (P) X ⟨⟩) X ⟨⟩ := wr_rev
theorem t_join {f : EM} {g : IEnv → IH → R (List IV)} {P : IV → IH → Prop} {t : TgR P X} : wrT (eJoin f g e h) P X t ↔ wrT (f e h) (fun x h1 => pS x (fun a => wrT (g e h1) (fun xs h2 => pO (strsOf xs) (fun ys => (ys.map (·.length)).sum + ys.length * a.length ≤ 16777216 ∧ P (.str (Txt.join a ys)) h2) ⟨⟩) X ⟨⟩) ⟨⟩) X ⟨⟩ := wr_join
theorem t_sel {b : Bool} {f : EM} {P : IV → IH → Prop} {t : TgR P X} : wrT (eSel b f e h) P X t ↔ wrT (f e h) (fun x h1 => wrT (selK b x h1) (P) X ⟨⟩) X ⟨⟩ := wr_bind
theorem t_repV {f g : EM} {P : List IV → IH → Prop} {t : TgR P X} : wrT (lRepV f g e h) P X t ↔ wrT (f e h) (fun x h1 => wrT (g e h1) (fun y h2 => wrT (repK x y h2) (P) X ⟨⟩) X ⟨⟩) X ⟨⟩ := wr_repV
theorem t_cnt {f : EM} {g : IEnv → IH → R (List IV)} {P : IV → IH → Prop} {t : TgR P X} : wrT (eCnt f g e h) P X t ↔ wrT (f e h) (fun x h1 => wrT (cntK g e x h1) (P) X ⟨⟩) X ⟨⟩ := wr_bind
theorem t_ok {a : α} {P : α → IH → Prop} {t : TgR P X} : wrT (.ok a h) P X t ↔ P a h := wr_ok
theorem t_exc {x : XC} {P : α → IH → Prop} {t : TgR P X} : wrT (.exc x h) P X t ↔ X x h := wr_exc
theorem t_bind {r : R α} {f : α → IH → R β} {P : β → IH → Prop} {t : TgR P X} : wrT (r.bind f) P X t ↔ wrT r (fun a h => wrT (f a h) P X ⟨⟩) X ⟨⟩ := wr_bind
theorem t_guard {c : Prop} [Decidable c] {r : R α} {P : α → IH → Prop} {t : TgR P X} : wrT (if c then r else .bad) P X t ↔ c ∧ wrT r P X ⟨⟩ := wr_guard
theorem t_ofO {o : Option IV} {P : IV → IH → Prop} {t : TgR P X} : wrT (ofO o h) P X t ↔ pO o (fun v => P v h) ⟨⟩ := wr_ofO
end
end MM

/-! R11: a def of which a property is told -/
namespace MM
open PySem L2
abbrev KE (Q : IV → Prop) : Ks := ⟨fun _ h => ∃ w, Rt w .non h ∧ Q w, fun u h => ∃ w, Rt w u h ∧ Q w, fun _ _ => False, fun _ _ => False, fun _ _ _ => False⟩
theorem specE {F : FM} {np n : Nat} {b : SM} (E : F = pureF (runF np n b)) {vs : List IV} {Q : IV → Prop} (hb : belows 0 vs = true) (hn : vs.length = np) (q : wp (b (vs.map some ++ List.replicate (n - vs.length) none) []) (KE Q)) : ∃ w, (∀ h, F vs h = .ok w h) ∧ Q w := by
  have key : ∃ w, wp (b (vs.map some ++ List.replicate (n - vs.length) none) []) (KT w) ∧ Q w := by
    have hp := q.po
    cases hr : b (vs.map some ++ List.replicate (n - vs.length) none) [] with
    | nx e1 h1 => rw [hr] at hp; obtain ⟨w, r, hq⟩ := hp; exact ⟨w, wp_nx.mpr r, hq⟩
    | rt v h1 => rw [hr] at hp; obtain ⟨w, r, hq⟩ := hp; exact ⟨w, wp_rt.mpr r, hq⟩
    | bk _ _ => rw [hr] at hp; exact hp.elim
    | ct _ _ => rw [hr] at hp; exact hp.elim
    | exc _ _ _ => rw [hr] at hp; exact hp.elim
    | bad => rw [hr] at hp; exact hp.elim
  obtain ⟨w, q, hq⟩ := key
  exact ⟨w, fun h => spec E hb hn q h, hq⟩
end MM

/-! R12: exceptions with a field -/
namespace MM
open PySem L2
section
variable {K : Ks} {tk : TgK K} {e : IEnv} {h : IH} {X : XC → IH → Prop}
theorem wp_raiseV {c : Nat} {f : EM} : wp (sRaiseV c f e h) K ↔ wr (f e h) (fun v h1 => K.ex ⟨c, some v⟩ e h1) (fun x h => K.ex x e h) := by
  unfold sRaiseV
  cases hf : f e h with
  | ok v h1 => exact ⟨fun q => wr_ok.mpr (wp_ex.mp q), fun q => wp_ex.mpr ((wr_ok (P := fun v h1 => K.ex ⟨c, some v⟩ e h1)).mp q)⟩
  | exc x h1 => exact ⟨fun q => wr_exc.mpr (wp_ex.mp q), fun q => wp_ex.mpr ((wr_exc (X := fun x h => K.ex x e h)).mp q)⟩
  | bad => exact ⟨fun q => (wp_bad.mp q).elim, fun q => (wr_bad.mp q).elim⟩
theorem t_raiseV {c : Nat} {f : EM} : wpT (sRaiseV c f e h) K tk ↔ wrT (f e h) (fun v h1 => K.ex ⟨c, some v⟩ e h1) (fun x h => K.ex x e h) ⟨⟩ := wp_raiseV
theorem wp_tryA {tb : XT} {b : SM} {hs : List (Nat × Option Nat × (XC → SM))} (q : wp (b e h) { K with ex := fun x e1 h1 => wp (hdlA tb x e1 h1 hs) K }) : wp (sTryA tb b hs e h) K := by
  unfold sTryA
  cases hb : b e h with
  | exc x e1 h1 => rw [hb] at q; exact q.po
  | nx _ _ => rw [hb] at q; exact ⟨q.po⟩
  | rt _ _ => rw [hb] at q; exact ⟨q.po⟩
  | bk _ _ => rw [hb] at q; exact ⟨q.po⟩
  | ct _ _ => rw [hb] at q; exact ⟨q.po⟩
  | bad => rw [hb] at q; exact q.po.elim
theorem eXf_eq {c : Nat} {v : IV} : eXf c ⟨c, some v⟩ e h = .ok v h := if_pos rfl
/-- an exception with its field -/
abbrev KXV (c : Nat) (v : IV) : Ks := ⟨fun _ _ => False, fun _ _ => False, fun _ _ => False, fun _ _ => False, fun x _ _ => x = ⟨c, some v⟩⟩
theorem specXV {F : FM} {np n : Nat} {b : SM} (E : F = pureF (runF np n b)) {vs : List IV} {c : Nat} {v : IV} (hv : below 0 v = true) (hb : belows 0 vs = true) (hn : vs.length = np) (q : wp (b (vs.map some ++ List.replicate (n - vs.length) none) []) (KXV c v)) (h : IH) : F vs h = .exc ⟨c, some v⟩ h := by
  have r : runF np n b vs [] = .exc ⟨c, some v⟩ [] := by
    rw [show runF np n b vs [] = _ from runG_eq hn]
    cases hr : b (vs.map some ++ List.replicate (n - vs.length) none) [] with
    | exc x e1 h1 =>
      rw [hr] at q
      obtain rfl : x = ⟨c, some v⟩ := q.po
      dsimp only
      unfold finX
      rw [if_pos ⟨by simp, hv⟩]
      rfl
    | nx _ _ => rw [hr] at q; exact q.po.elim
    | rt _ _ => rw [hr] at q; exact q.po.elim
    | bk _ _ => rw [hr] at q; exact q.po.elim
    | ct _ _ => rw [hr] at q; exact q.po.elim
    | bad => rw [hr] at q; exact q.po.elim
  rw [E]
  unfold pureF
  rw [if_pos hb, r]
end
end MM

/-! R13: great products, sorted sets of rows -/
namespace MM
open PySem L2
theorem mulX_i {i j : Int} {h : IH} : mulX (.int i) (.int j) h = if ((-(2 ^ 64) < i ∧ i < 2 ^ 64) ∨ (-(2 ^ 64) < j ∧ j < 2 ^ 64)) ∨ i.natAbs.log2 + j.natAbs.log2 < 134000000 then .ok (.int (i * j)) h else .bad := rfl
theorem mulX_t {xs : List IV} {k : Int} {h : IH} : mulX (.tup xs) (.int k) h = mulT (.tup xs) (.int k) h := rfl
theorem mulX_s {a : Str} {k : Int} {h : IH} : mulX (.str a) (.int k) h = mulT (.str a) (.int k) h := rfl
section
variable {X : XC → IH → Prop} {e : IEnv} {h : IH}
theorem wr_sortT {f : IEnv → IH → R (List IV)} {P : List IV → IH → Prop} : wr (lSortSetT f e h) P X ↔ wr (f e h) (fun xs h1 => ∃ Ls, tupsOf xs = some Ls ∧ okT Ls = true ∧ P ((sortT Ls).map fun L => .tup (L.map .int)) h1) X := by
  unfold lSortSetT
  rw [wr_bind]
  refine wr_both fun xs h1 => ?_
  cases ht : tupsOf xs with
  | none => exact ⟨fun q => (wr_bad.mp q).elim, fun ⟨_, q, _⟩ => by cases q⟩
  | some Ls =>
    dsimp only
    rw [wr_guard, wr_ok]
    exact ⟨fun q => ⟨Ls, rfl, q.1, q.2⟩, fun ⟨_, q, p⟩ => by cases q; exact p⟩
theorem t_sortT {f : IEnv → IH → R (List IV)} {P : List IV → IH → Prop} {t : TgR P X} : wrT (lSortSetT f e h) P X t ↔ wrT (f e h) (fun xs h1 => pO (tupsOf xs) (fun Ls => okT Ls = true ∧ P ((sortT Ls).map fun L => .tup (L.map .int)) h1) ⟨⟩) X ⟨⟩ := wr_sortT
theorem t_iTupV {f : EM} {P : List IV → IH → Prop} {t : TgR P X} : wrT (iTupV f e h) P X t ↔ wrT (f e h) (fun x h1 => pT x (fun xs => P xs h1) ⟨⟩) X ⟨⟩ := by
  show wr (iTupV f e h) P X ↔ wr (f e h) (fun x h1 => ∃ v, x = .tup v ∧ P v h1) X
  unfold iTupV
  rw [wr_bind]
  refine wr_both fun x h1 => ?_
  cases x with
  | tup xs => exact ⟨fun q => ⟨xs, rfl, wr_ok.mp q⟩, fun ⟨_, q, p⟩ => by cases q; exact wr_ok.mpr p⟩
  | _ => exact ⟨fun q => (wr_bad.mp q).elim, fun ⟨_, q, _⟩ => by cases q⟩
end
/-- rows as values -/
theorem tupsOf_itz : ∀ Ls : List (List Int), tupsOf (Ls.map fun L => IV.tup (L.map .int)) = some Ls
  | [] => rfl
  | L :: Ls => by
    have := tupsOf_itz Ls
    rw [List.map_cons]
    unfold tupsOf
    rw [show intsOf (L.map .int) = some L from intsOf_ints L, this]
    rfl
end MM

open PySem L2 MM
local macro_rules
  | `(tactic| simp_arith [$xs,*]) => `(tactic| simp (config := { maxSteps := 4000000 }) only [wp_seq, wp_nil, wp_asgN, wp_asgT2, wp_asgT3, wr_rg2L, mIns_eq, wp_asgVK, wp_asgVV, wp_asgVI, wp_ret, wp_retN, wp_brk, wp_cont, wp_expr, wp_ifI, wp_par, wp_aug, wp_raise, wp_raiseV, eXf_eq, wp_for, wr_var, wr_k, wr_e1, wr_e2, wr_aNil, wr_aCons, wr_c, wr_ck, wr_tup, wr_lst, wr_fz, wr_new, wr_tuple, wr_len, wr_lId, wr_qV, wr_qLV, wr_lenV, wr_ix, wr_oN, wr_oS, wr_cut, wr_toB, wr_andI, wr_orI, wr_not, wr_eAndI, wr_eOrI, wr_eNot, wr_eIfI, wr_chainI, wr_mth', wr_mth0', wr_ints', wr_bls, wr_catV, wr_rep, wr_rg1L, wr_srt, wr_idx, wr_sset, wr_iSeq, wr_iEnum, wr_iFresh, wr_iRg1, wr_iRg2', wr_lc, wr_ok, wr_exc, wr_guard, wr_bind, if_true, if_false, wr_toV, mulT_i, mulT_t, mulT_s, mulX_i, mulX_t, mulX_s, o_add_i, o_add_s, o_add_t, o_cat_f, o_add_f, o_sub, o_mul, o_div, o_mod, o_pow, o_neg, o_int, o_intb, o_abs, o_max, o_min, o_lt, o_le, o_gt, o_ge, o_eq_i, o_ne_i, o_eq_s, o_ne_s, repK_f, o_is2_n, o_isnt2_n, o_is2_b, o_isnt2_b, o_is2_i, o_is2_s, o_is2_t, o_is2_f, o_is2_o, o_is_n, o_isnt_n, o_is_b, o_isnt_b, o_len_t, o_len_f, o_len_s, o_seq_t, o_seq_f, o_enum_t, o_enum_f, o_items_t, o_items_f, o_itemsL_f, k_int_non, k_int_bl, k_int_int, k_int_str, k_int_fz, k_int_tup, k_bool_non, k_bool_bl, k_bool_int, k_bool_str, k_bool_fz, k_bool_tup, k_tuple_non, k_tuple_bl, k_tuple_int, k_tuple_str, k_tuple_fz, k_tuple_tup, k_list_non, k_list_bl, k_list_int, k_list_str, k_list_fz, k_list_tup, k_str_non, k_str_bl, k_str_int, k_str_str, k_str_fz, k_str_tup, wr_ofO, bIx_t, bIx_f, bIx_r, lenK_r, seqK_r, mApp_eq, mPop0_eq, mulK_i, mulK_t, mulK_s, gNm_eq, gTp_eq, gCons_eq, gNil_eq, ixN_0, ixN_1, atI_0, atI_1, atI_2, atI_3, atI_neg1, o_items_r, o_itemsL_r, Prod.mk.injEq, Option.bind_some, IO.lst.injEq, ixN20, ixN21, or_true, true_or, Rt_bl, Rt_int, Rt_str, Rt_non, Rt_tupz, Rt_fzz, List.getElem?_cons_zero, List.getElem?_cons_succ, List.set_cons_zero, List.set_cons_succ, List.map_cons, List.map_nil, List.cons_append, List.nil_append, List.length_cons, List.length_nil, Nat.zero_add, Nat.reduceAdd, Nat.reduceSub, Nat.sub_self, Option.some.injEq, IV.int.injEq, IV.bl.injEq, IV.tup.injEq, IV.fz.injEq, IV.ref.injEq, IV.str.injEq, exists_eq_left, exists_eq_left', exists_eq_right, exists_eq_right', and_assoc, true_and, and_true, and_self, decide_eq_true_eq, decide_eq_false_iff_not, true_implies, not_true_eq_false, not_false_eq_true, forall_const, wipeE, sizeLine_eq, Int.reduceToNat, Int.reducePow, Nat.reducePow, Int.reduceLE, Int.reduceLT, Nat.reduceLeDiff, Nat.reduceLT, Int.reduceNeg, Int.reduceEq, Int.reduceAdd, Int.reduceSub, Int.reduceMul, List.zip_cons_cons, List.zip_nil_left, List.foldl_cons, List.foldl_nil, Bool.true_eq_false, Bool.false_eq_true, false_implies, Bool.not_true, Bool.not_false, Bool.not_eq_true', Bool.not_eq_false', reduceCtorEq, ite_pp, Bool.not_eq_true, ↓reduceIte, $xs,*])
local macro_rules
  | `(tactic| simp_arith! [$xs,*]) => `(tactic| ((first | refine wp_toT ?_ | refine wr_toT ?_ | skip); simp (config := { maxSteps := 4000000, dsimp := false }) only [mIns_eq, eXf_eq, if_true, if_false, mulT_i, mulT_t, mulT_s, mulX_i, mulX_t, mulX_s, o_add_i, o_add_s, o_add_t, o_cat_f, o_add_f, o_sub, o_mul, o_div, o_mod, o_pow, o_neg, o_int, o_intb, o_abs, o_max, o_min, o_lt, o_le, o_gt, o_ge, o_eq_i, o_ne_i, o_eq_s, o_ne_s, repK_f, o_is2_n, o_isnt2_n, o_is2_b, o_isnt2_b, o_is2_i, o_is2_s, o_is2_t, o_is2_f, o_is2_o, o_is_n, o_isnt_n, o_is_b, o_isnt_b, o_len_t, o_len_f, o_len_s, o_seq_t, o_seq_f, o_enum_t, o_enum_f, o_items_t, o_items_f, o_itemsL_f, k_int_non, k_int_bl, k_int_int, k_int_str, k_int_fz, k_int_tup, k_bool_non, k_bool_bl, k_bool_int, k_bool_str, k_bool_fz, k_bool_tup, k_tuple_non, k_tuple_bl, k_tuple_int, k_tuple_str, k_tuple_fz, k_tuple_tup, k_list_non, k_list_bl, k_list_int, k_list_str, k_list_fz, k_list_tup, k_str_non, k_str_bl, k_str_int, k_str_str, k_str_fz, k_str_tup, bIx_t, bIx_f, bIx_r, lenK_r, seqK_r, mApp_eq, mPop0_eq, mulK_i, mulK_t, mulK_s, gNm_eq, gTp_eq, gCons_eq, gNil_eq, ixN_0, ixN_1, atI_0, atI_1, atI_2, atI_3, atI_neg1, o_items_r, o_itemsL_r, Prod.mk.injEq, Option.bind_some, IO.lst.injEq, ixN20, ixN21, or_true, true_or, Rt_bl, Rt_int, Rt_str, Rt_non, Rt_tupz, Rt_fzz, List.getElem?_cons_zero, List.getElem?_cons_succ, List.set_cons_zero, List.set_cons_succ, List.map_cons, List.map_nil, List.cons_append, List.nil_append, List.length_cons, List.length_nil, Nat.zero_add, Nat.reduceAdd, Nat.reduceSub, Nat.sub_self, Option.some.injEq, IV.int.injEq, IV.bl.injEq, IV.tup.injEq, IV.fz.injEq, IV.ref.injEq, IV.str.injEq, exists_eq_left, exists_eq_left', exists_eq_right, exists_eq_right', and_assoc, true_and, and_true, and_self, decide_eq_true_eq, decide_eq_false_iff_not, true_implies, not_true_eq_false, not_false_eq_true, forall_const, wipeE, sizeLine_eq, Int.reduceToNat, Int.reducePow, Nat.reducePow, Int.reduceLE, Int.reduceLT, Nat.reduceLeDiff, Nat.reduceLT, Int.reduceNeg, Int.reduceEq, Int.reduceAdd, Int.reduceSub, Int.reduceMul, List.zip_cons_cons, List.zip_nil_left, List.foldl_cons, List.foldl_nil, Bool.true_eq_false, Bool.false_eq_true, false_implies, Bool.not_true, Bool.not_false, Bool.not_eq_true', Bool.not_eq_false', reduceCtorEq, ite_pp, Bool.not_eq_true, ↓reduceIte, pO_some, pE_some, pL_some, pB_bl, pI_int, pR_ref, pT_tup, pS_str, t_seq, t_nil, t_asgN, t_ret, t_retN, t_brk, t_cont, t_expr, t_if, t_par, t_aug, t_raise, t_raiseV, eXf_eq, t_for, t_asgT2, t_asgT3, t_asgVK, t_asgVV, t_asgVI, t_var, t_k, t_e1, t_e2, t_aNil, t_aCons, t_c, t_ck, t_tup, t_lst, t_fz, t_new, t_tuple, t_len, t_lId, t_qV, t_qLV, t_lenV, t_ix, t_oN, t_oS, t_cut, t_toB, t_and, t_or, t_not, t_eAnd, t_eOr, t_eNot, t_eIf, t_chain, t_mth, t_mth0, t_ints, t_bls, t_catV, t_rep, t_rg1L, t_rg2L, t_srt, t_idx, t_sset, t_iSeq, t_iEnum, t_iFresh, t_iRg1, t_iRg2, t_lc, t_toV, t_rev, t_join, t_sel, t_repV, t_cnt, t_ok, t_exc, t_bind, t_guard, t_ofO, t_sortT, $xs,*]; try simp only [wrT, wpT, pO, pE, pL, pB, pI, pR, pT, pS]))

namespace LW
open PySem L2 MM
abbrev xtb : XT := [(1, 0, true), (1, 1, true), (1, 2, false), (2, 0, true), (2, 1, false), (2, 2, true)]
noncomputable def b__law_cup : SM := sRet (eNew (lLst (aCons (eIf (toB (e2 cGe (eVar 0) (e2 bPow (eK (.int 10)) (eK (.int 18))))) (e2 bSub (e1 uInt (eVar 0)) (e2 bPow (eK (.int 10)) (eK (.int 18)))) (eK (.int 0))) (aCons (e2 addK (e2 bMod (e1 uInt (eVar 0)) (eK (.int 2147483629))) (eK (.int 3))) (aNil)))))
noncomputable def F__law_cup : FM := Classical.choose (⟨_, rfl⟩ : ∃ F : FM, F = newF (runR 1 1 b__law_cup))
theorem E__law_cup : F__law_cup = newF (runR 1 1 b__law_cup) := Classical.choose_spec (⟨_, rfl⟩ : ∃ F : FM, F = newF (runR 1 1 b__law_cup))
noncomputable def b__law_sip : SM := sSeq (sIf (toB (e2 cGt (eIx (eVar 0) (eK (.int 0))) (eK (.int 0)))) (sSeq (sAsg (e2 bMod (e1 uInt (eIx (eVar 0) (eK (.int 0)))) (eVar 1)) (gNm 2))
  (sSeq (sAsg (e2 bDiv (eIx (eVar 0) (eK (.int 0))) (eVar 1)) (gSb (eVar 0) (eK (.int 0))))
  (sRet (eVar 2)))) (sNil))
  (sSeq (sAsg (e2 bMod (e1 uInt (e2 mulK (eIx (eVar 0) (eK (.int 1))) (eK (.int 69621)))) (eK (.int 2147483647))) (gSb (eVar 0) (eK (.int 1))))
  (sRet (e2 bMod (e2 bDiv (e2 bMod (e1 uInt (e2 mulK (eIx (eVar 0) (eK (.int 1))) (eIx (eVar 0) (eK (.int 1))))) (eK (.int 2147483629))) (eK (.int 32))) (eVar 1))))
noncomputable def F__law_sip : FM := Classical.choose (⟨_, rfl⟩ : ∃ F : FM, F = cellF (runF 2 3 b__law_sip))
theorem E__law_sip : F__law_sip = cellF (runF 2 3 b__law_sip) := Classical.choose_spec (⟨_, rfl⟩ : ∃ F : FM, F = cellF (runF 2 3 b__law_sip))
noncomputable def b__law_row : SM := sSeq (sPar [2, 3] (aCons (eNew (lRg1 (eVar 1))) (aCons (eNew (lLst (aNil))) (aNil))))
  (sSeq (sWhile (fun _ _ => 100000) (toB (e2 cNe (eVar 2) (eFz (lLst (aNil))))) (sExpr (eMth mAppend (eVar 3) (aCons (eMth mPop (eVar 2) (aCons (eC F__law_sip (aCons (eVar 0) (aCons (eLenV (eVar 2)) (aNil)))) (aNil))) (aNil)))))
  (sRet (eVar 3)))
noncomputable def F__law_row : FM := Classical.choose (⟨_, rfl⟩ : ∃ F : FM, F = cellF (runF 2 4 b__law_row))
theorem E__law_row : F__law_row = cellF (runF 2 4 b__law_row) := Classical.choose_spec (⟨_, rfl⟩ : ∃ F : FM, F = cellF (runF 2 4 b__law_row))
noncomputable def b__law_chart : SM := sSeq (sPar [4, 5] (aCons (eC F__law_sip (aCons (eVar 0) (aCons (eK (.int 4)) (aNil)))) (aCons (eC F__law_row (aCons (eVar 0) (aCons (eVar 1) (aNil)))) (aNil))))
  (sSeq (sAsg (eNew (lRep (lLst (aCons (eK (.int 0)) (aNil))) (eVar 1))) (gNm 2))
  (sSeq (sFor (iRg1 (eVar 1)) (gNm 3) (sSeq (sAsg (eC F__law_sip (aCons (eVar 0) (aCons (eVar 1) (aNil)))) (gNm 6))
  (sSeq (sIf (tAndM (toB (e2 cEq (eVar 4) (eK (.int 2)))) (tAndM (toB (e2 cGt (eVar 3) (eK (.int 0)))) (toB (e2 cGt (eC F__law_sip (aCons (eVar 0) (aCons (eK (.int 5)) (aNil)))) (eK (.int 0)))))) (sAsg (e2 bSub (eVar 3) (eK (.int 1))) (gNm 6)) (sNil))
  (sSeq (sIf (tAndM (toB (e2 cEq (eVar 4) (eK (.int 3)))) (tAndM (toB (e2 cGt (eVar 3) (eK (.int 0)))) (toB (e2 cGt (eC F__law_sip (aCons (eVar 0) (aCons (eK (.int 4)) (aNil)))) (eK (.int 0)))))) (sAsg (e2 bMod (eVar 6) (e2 addK (eK (.int 1)) (e2 bDiv (eVar 3) (eK (.int 3))))) (gNm 6)) (sNil))
  (sAsg (eIx (eVar 5) (eVar 6)) (gSb (eVar 2) (eIx (eVar 5) (eVar 3))))))))
  (sRet (eIf (toB (e2 cNe (eVar 4) (eK (.int 1)))) (eTuple (qV (eVar 2))) (eTuple (qV (eVar 5)))))))
noncomputable def F__law_chart : FM := Classical.choose (⟨_, rfl⟩ : ∃ F : FM, F = cellF (runF 2 7 b__law_chart))
theorem E__law_chart : F__law_chart = cellF (runF 2 7 b__law_chart) := Classical.choose_spec (⟨_, rfl⟩ : ∃ F : FM, F = cellF (runF 2 7 b__law_chart))
noncomputable def b__law_written : SM := sSeq (sAsg (eK (.str "")) (gNm 1))
  (sSeq (sFor (iSeq (eVar 0)) (gNm 2) (sAsg (e2 addK (eVar 1) (eIx (eK (.str "0123456789")) (eVar 2))) (gNm 1)))
  (sRet (eVar 1)))
noncomputable def F__law_written : FM := Classical.choose (⟨_, rfl⟩ : ∃ F : FM, F = pureF (runF 1 3 b__law_written))
theorem E__law_written : F__law_written = pureF (runF 1 3 b__law_written) := Classical.choose_spec (⟨_, rfl⟩ : ∃ F : FM, F = pureF (runF 1 3 b__law_written))
noncomputable def b_is_integer : SM := sRet (eAnd (e1 (uIsi "int") (eVar 0)) (eNot (e1 (uIsi "bool") (eVar 0))))
noncomputable def F_is_integer : FM := Classical.choose (⟨_, rfl⟩ : ∃ F : FM, F = pureF (runF 1 1 b_is_integer))
theorem E_is_integer : F_is_integer = pureF (runF 1 1 b_is_integer) := Classical.choose_spec (⟨_, rfl⟩ : ∃ F : FM, F = pureF (runF 1 1 b_is_integer))
noncomputable def b_is_between : SM := sRet (eAnd (eC F_is_integer (aCons (eVar 1) (aNil))) (eChain cLe cLe (eVar 0) (eVar 1) (eVar 2)))
noncomputable def F_is_between : FM := Classical.choose (⟨_, rfl⟩ : ∃ F : FM, F = pureF (runF 3 3 b_is_between))
theorem E_is_between : F_is_between = pureF (runF 3 3 b_is_between) := Classical.choose_spec (⟨_, rfl⟩ : ∃ F : FM, F = pureF (runF 3 3 b_is_between))
noncomputable def b_is_chart : SM := sSeq (sIf (tOrM (tNotM (toB (e1 (uIsi "tuple") (eVar 0)))) (tNotM (toB (eChain cLe cLe (eK (.int 1)) (eLenV (eVar 0)) (eK (.int 10)))))) (sRet (eK (.bl false))) (sNil))
  (sRet (eBls (·.all id) (lLc [1] (iSeq (eVar 0)) (gNm 1) (tYesM) (eC F_is_between (aCons (eK (.int 0)) (aCons (eVar 1) (aCons (e2 bSub (eLenV (eVar 0)) (eK (.int 1))) (aNil))))))))
noncomputable def F_is_chart : FM := Classical.choose (⟨_, rfl⟩ : ∃ F : FM, F = pureF (runF 1 2 b_is_chart))
theorem E_is_chart : F_is_chart = pureF (runF 1 2 b_is_chart) := Classical.choose_spec (⟨_, rfl⟩ : ∃ F : FM, F = pureF (runF 1 2 b_is_chart))
noncomputable def b_check_chart : SM := sIf (tNotM (toB (eC F_is_chart (aCons (eVar 0) (aNil))))) (sRaise 1) (sNil)
noncomputable def F_check_chart : FM := Classical.choose (⟨_, rfl⟩ : ∃ F : FM, F = pureF (runF 1 1 b_check_chart))
theorem E_check_chart : F_check_chart = pureF (runF 1 1 b_check_chart) := Classical.choose_spec (⟨_, rfl⟩ : ∃ F : FM, F = pureF (runF 1 1 b_check_chart))
noncomputable def b_text_of : SM := sRet (eJoin (eK (.str "")) (lLc [1] (iSeq (eVar 0)) (gNm 1) (tYesM) (eIx (eK (.str "0123456789")) (eVar 1))))
noncomputable def F_text_of : FM := Classical.choose (⟨_, rfl⟩ : ∃ F : FM, F = pureF (runF 1 2 b_text_of))
theorem E_text_of : F_text_of = pureF (runF 1 2 b_text_of) := Classical.choose_spec (⟨_, rfl⟩ : ∃ F : FM, F = pureF (runF 1 2 b_text_of))
noncomputable def b_chart_text : SM := sSeq (sExpr (eC F_check_chart (aCons (eVar 0) (aNil))))
  (sRet (eC F_text_of (aCons (eVar 0) (aNil))))
noncomputable def F_chart_text : FM := Classical.choose (⟨_, rfl⟩ : ∃ F : FM, F = pureF (runF 1 1 b_chart_text))
theorem E_chart_text : F_chart_text = pureF (runF 1 1 b_chart_text) := Classical.choose_spec (⟨_, rfl⟩ : ∃ F : FM, F = pureF (runF 1 1 b_chart_text))
noncomputable def b_chart_told : SM := sSeq (sIf (tOrM (tNotM (toB (e1 (uIsi "str") (eVar 0)))) (toB (e2 cEq (eVar 0) (eK (.str ""))))) (sRaiseV 2 (eK (.int 0))) (sNil))
  (sSeq (sFor (iEnumStr (eVar 0)) (gTp 2 (gCons' (gNm 2) (gCons' (gNm 3) (gNil')))) (sIf (tOrM (toB (e2 cNin (eVar 3) (eK (.str "0123456789")))) (toB (e2 cGe (eVar 2) (eK (.int 10))))) (sRaiseV 2 (eVar 2)) (sNil)))
  (sSeq (sAsg (eTuple (lLc [3] (iStrM (eVar 0)) (gNm 3) (tYesM) (eMthS mSIndex (eK (.str "0123456789")) (aCons (eVar 3) (aNil))))) (gNm 1))
  (sSeq (sIf (toB (e2 cGe (eInts maxL (qV (eVar 1))) (eLenV (eVar 1)))) (sRaiseV 2 (eLenV (eVar 0))) (sNil))
  (sRet (eVar 1)))))
noncomputable def F_chart_told : FM := Classical.choose (⟨_, rfl⟩ : ∃ F : FM, F = pureF (runF 1 4 b_chart_told))
theorem E_chart_told : F_chart_told = pureF (runF 1 4 b_chart_told) := Classical.choose_spec (⟨_, rfl⟩ : ∃ F : FM, F = pureF (runF 1 4 b_chart_told))
noncomputable def b__law_bent : SM := sSeq (sFor (iRg1 (e2 addK (eK (.int 1)) (eC F__law_sip (aCons (eVar 0) (aCons (eK (.int 2)) (aNil)))))) (gNm 2) (sSeq (sPar [4, 5] (aCons (eC F__law_sip (aCons (eVar 0) (aCons (e2 addK (eLenV (eVar 1)) (eK (.int 1))) (aNil)))) (aCons (eIx (eK (.str "0123456789- a,\n\tA/:;+")) (eC F__law_sip (aCons (eVar 0) (aCons (eK (.int 21)) (aNil))))) (aNil))))
  (sSeq (sAsg (eC F__law_sip (aCons (eVar 0) (aCons (eK (.int 5)) (aNil)))) (gNm 3))
  (sIf (toB (e2 cEq (eVar 3) (eK (.int 0)))) (sAsg (eCut (eVar 1) (oN) (oS (eVar 4))) (gNm 1)) (sIf (toB (e2 cEq (eVar 3) (eK (.int 1)))) (sAsg (e2 addK (e2 addK (eCut (eVar 1) (oN) (oS (eVar 4))) (eVar 5)) (eCut (eVar 1) (oS (eVar 4)) (oN))) (gNm 1)) (sIf (toB (e2 cEq (eVar 3) (eK (.int 2)))) (sAsg (e2 addK (eCut (eVar 1) (oN) (oS (eVar 4))) (eCut (eVar 1) (oS (e2 addK (eVar 4) (eK (.int 1)))) (oN))) (gNm 1)) (sAsg (e2 addK (e2 addK (eCut (eVar 1) (oN) (oS (eVar 4))) (eVar 5)) (eCut (eVar 1) (oS (e2 addK (eVar 4) (eK (.int 1)))) (oN))) (gNm 1))))))))
  (sRet (eVar 1))
noncomputable def F__law_bent : FM := Classical.choose (⟨_, rfl⟩ : ∃ F : FM, F = cellF (runF 2 6 b__law_bent))
theorem E__law_bent : F__law_bent = cellF (runF 2 6 b__law_bent) := Classical.choose_spec (⟨_, rfl⟩ : ∃ F : FM, F = cellF (runF 2 6 b__law_bent))
noncomputable def b__law_told : SM := sSeq (sAsg (eK (.str "other")) (gNm 1))
  (sSeq (sTryA xtb (sAsg (eTup (aCons (eK .non) (aCons (eCK F_chart_told [0] aNil (aCons (eVar 0) (aNil))) (aNil)))) (gNm 1)) [(2, some 2, fun x => sAsg (eTup (aCons (eXf 2 x) (aCons (eK .non) (aNil)))) (gNm 1)), (0, none, fun _ => sAsg (eK (.str "other")) (gNm 1))])
  (sRet (eVar 1)))
noncomputable def F__law_told : FM := Classical.choose (⟨_, rfl⟩ : ∃ F : FM, F = pureF (runF 1 3 b__law_told))
theorem E__law_told : F__law_told = pureF (runF 1 3 b__law_told) := Classical.choose_spec (⟨_, rfl⟩ : ∃ F : FM, F = pureF (runF 1 3 b__law_told))
noncomputable def b__law_read : SM := sSeq (sAsg (eK (.int 0)) (gNm 1))
  (sSeq (sFor (iRg2 (eK (.int 1)) (eK (.int 11))) (gNm 2) (sSeq (sAsg (eK (.int 0)) (gNm 3))
  (sSeq (sWhile (fun _ _ => 100000) (tAndM (toB (e2 cLt (eVar 3) (eLenV (eVar 0)))) (tAndM (toB (e2 cLt (eVar 3) (eVar 2))) (toB (e2 cIn (eIx (eVar 0) (eVar 3)) (eCut (eK (.str "0123456789")) (oN) (oS (eVar 2))))))) (sAsg (e2 addK (eVar 3) (eK (.int 1))) (gNm 3)))
  (sSeq (sAsg (e2 bMax (eVar 1) (eVar 3)) (gNm 1))
  (sIf (tAndM (toB (e2 cEq (eVar 3) (eVar 2))) (toB (e2 cEq (eLenV (eVar 0)) (eVar 2)))) (sRet (eTup (aCons (eK .non) (aCons (eTuple (lLc [4] (iStrM (eVar 0)) (gNm 4) (tYesM) (eMthS mSIndex (eK (.str "0123456789")) (aCons (eVar 4) (aNil))))) (aNil))))) (sNil))))))
  (sRet (eTup (aCons (eVar 1) (aCons (eK .non) (aNil))))))
noncomputable def F__law_read : FM := Classical.choose (⟨_, rfl⟩ : ∃ F : FM, F = pureF (runF 1 5 b__law_read))
theorem E__law_read : F__law_read = pureF (runF 1 5 b__law_read) := Classical.choose_spec (⟨_, rfl⟩ : ∃ F : FM, F = pureF (runF 1 5 b__law_read))
noncomputable def b__law_refused : SM := sSeq (sAsg (eK (.str "none")) (gNm 1))
  (sSeq (sTry xtb (sExpr (eC F_chart_text (aCons (eVar 0) (aNil)))) [(1, sAsg (eK (.str "chart")) (gNm 1)), (0, sAsg (eK (.str "other")) (gNm 1))])
  (sRet (eVar 1)))
noncomputable def F__law_refused : FM := Classical.choose (⟨_, rfl⟩ : ∃ F : FM, F = pureF (runF 1 2 b__law_refused))
theorem E__law_refused : F__law_refused = pureF (runF 1 2 b__law_refused) := Classical.choose_spec (⟨_, rfl⟩ : ∃ F : FM, F = pureF (runF 1 2 b__law_refused))
noncomputable def b__law_bad_chart : SM := sSeq (sPar [4, 5] (aCons (eLenV (eVar 1)) (aCons (eC F__law_sip (aCons (eVar 0) (aCons (eLenV (eVar 1)) (aNil)))) (aNil))))
  (sSeq (sIf (toB (e2 cEq (eC F__law_sip (aCons (eVar 0) (aCons (eK (.int 4)) (aNil)))) (eK (.int 0)))) (sSeq (sAsg (eFz (lLst (aCons (eFz (lId (qV (eVar 1)))) (aCons (eK .non) (aCons (eK (.str "0")) (aCons (eTup (aNil)) (aCons (eVar 4) (aCons (e2 mulK (eTup (aCons (eK (.int 0)) (aNil))) (eK (.int 11))) (aCons (eFz (lLst (aCons (eK (.int 0)) (aNil)))) (aCons (eTup (aCons (eVar 1) (aNil))) (aCons (eK (.bl true)) (aCons (eTup (aCons (eK .non) (aNil))) (aCons (eTup (aCons (eK (.str "0")) (aNil))) (aNil)))))))))))))) (gNm 3))
  (sRet (eIx (eVar 3) (eC F__law_sip (aCons (eVar 0) (aCons (eK (.int 11)) (aNil))))))) (sNil))
  (sSeq (sAsg (eFz (lLst (aCons (e2 addK (e2 addK (eVar 4) (eK (.int 1))) (eC F__law_sip (aCons (eVar 0) (aCons (eK (.int 200)) (aNil))))) (aCons (e2 bSub (e1 uNeg (eK (.int 2))) (eC F__law_sip (aCons (eVar 0) (aCons (eK (.int 200)) (aNil))))) (aCons (e2 addK (e2 mulK (eK (.int 11)) (eC F__law_sip (aCons (eVar 0) (aCons (eVar 4) (aNil))))) (eK (.int 10))) (aNil)))))) (gNm 2))
  (sSeq (sAsg (eIx (e2 addK (eFz (lLst (aCons (eVar 4) (aCons (e1 uNeg (eK (.int 1))) (aCons (eK (.bl true)) (aCons (eK (.bl false)) (aCons (eK .non) (aCons (eK (.str "0")) (aCons (eTup (aCons (eK (.int 0)) (aNil))) (aCons (eFz (lLst (aCons (eK (.int 0)) (aNil)))) (aCons (e2 bPow (eK (.int 10)) (eK (.int 30))) (aCons (e2 addK (eVar 4) (eK (.int 1))) (aNil))))))))))))) (eVar 2)) (eC F__law_sip (aCons (eVar 0) (aCons (eK (.int 13)) (aNil))))) (gNm 3))
  (sRet (e2 addK (e2 addK (eCut (eVar 1) (oN) (oS (eVar 5))) (eTup (aCons (eVar 3) (aNil)))) (eCut (eVar 1) (oS (e2 addK (eVar 5) (eK (.int 1)))) (oN)))))))
noncomputable def F__law_bad_chart : FM := Classical.choose (⟨_, rfl⟩ : ∃ F : FM, F = cellF (runF 2 6 b__law_bad_chart))
theorem E__law_bad_chart : F__law_bad_chart = cellF (runF 2 6 b__law_bad_chart) := Classical.choose_spec (⟨_, rfl⟩ : ∃ F : FM, F = cellF (runF 2 6 b__law_bad_chart))
noncomputable def b_law : SM := sSeq (sFor (iSeq (e2 addK (eFz (lLst (aCons (eK (.int 66851292080524193670000000000000000000000298271605240271604942)) (aNil)))) (eCut (eVar 0) (oN) (oS (eK (.int 5)))))) (gNm 1) (sGc (sSeq (sAsg (eC F__law_cup (aCons (eVar 1) (aNil))) (gNm 2))
  (sSeq (sAsg (eC F__law_chart (aCons (eVar 2) (aCons (e2 addK (eK (.int 1)) (eC F__law_sip (aCons (eVar 2) (aCons (eK (.int 10)) (aNil))))) (aNil)))) (gNm 3))
  (sSeq (sAsg (eC F__law_written (aCons (eVar 3) (aNil))) (gNm 4))
  (sSeq (sIf (toB (e2 cNe (e1 reprK (eFz (lLst (aCons (eC F_chart_text (aCons (eVar 3) (aNil))) (aCons (eCK F_chart_text [0] aNil (aCons (eVar 3) (aNil))) (aNil)))))) (e1 reprK (eFz (lLst (aCons (eVar 4) (aCons (eVar 4) (aNil)))))))) (sRet (eK (.bl false))) (sNil))
  (sSeq (sIf (tOrM (toB (e2 cNe (e1 reprK (eFz (lLst (aCons (eC F_chart_told (aCons (eVar 4) (aNil))) (aCons (eC F_chart_told (aCons (eC F_chart_text (aCons (eVar 3) (aNil))) (aNil))) (aNil)))))) (e1 reprK (eFz (lLst (aCons (eVar 3) (aCons (eVar 3) (aNil)))))))) (toB (e2 cNe (eC F_chart_told (aCons (eVar 4) (aNil))) (eVar 3)))) (sRet (eK (.bl false))) (sNil))
  (sSeq (sAsg (eFz (lLst (aCons (eK (.str "")) (aCons (eK (.str "0")) (aCons (eK (.str "1")) (aCons (eK (.str "10")) (aCons (eK (.str "13")) (aCons (eK (.str "9999999999")) (aCons (eK (.str "99999999999")) (aCons (e2 mulK (eK (.str "0")) (eK (.int 11))) (aCons (e2 mulK (eK (.str "0")) (eK (.int 20000))) (aNil)))))))))))) (gNm 5))
  (sSeq (sAsg (e2 addK (eVar 5) (eFz (lLst (aCons (eK (.str "00000000000x")) (aCons (eK (.str " 0")) (aCons (eK (.str "0 ")) (aCons (eK (.str "0\n")) (aNil)))))))) (gNm 5))
  (sSeq (sAsg (e2 addK (eVar 5) (eFz (lLst (aCons (e2 addK (eVar 4) (eK (.str "9"))) (aCons (e2 addK (eVar 4) (eK (.str "x"))) (aCons (eCut (eVar 4) (oN) (oS (e1 uNeg (eK (.int 1))))) (aCons (eK (.str "-1")) (aCons (e2 mulK (eK (.str "9")) (eK (.int 9))) (aCons (e2 mulK (eK (.str "8")) (eK (.int 9))) (aCons (eK (.str "+0")) (aNil))))))))))) (gNm 5))
  (sSeq (sFor (iFresh (lLst (aCons (eVar 4) (aCons (eC F__law_bent (aCons (eVar 2) (aCons (eVar 4) (aNil)))) (aCons (eC F__law_bent (aCons (eVar 2) (aCons (eVar 4) (aNil)))) (aCons (eIx (eVar 5) (eC F__law_sip (aCons (eVar 2) (aCons (eK (.int 20)) (aNil))))) (aNil))))))) (gNm 6) (sIf (toB (e2 cNe (e1 reprK (eC F__law_told (aCons (eVar 6) (aNil)))) (e1 reprK (eC F__law_read (aCons (eVar 6) (aNil)))))) (sRet (eK (.bl false))) (sNil)))
  (sSeq (sFor (iFresh (lLst (aCons (eK .non) (aCons (eK (.int 7)) (aCons (eTup (aCons (eK (.str "0")) (aNil))) (aCons (eFz (lLst (aCons (eK (.str "0")) (aNil)))) (aCons (eK (.bl true)) (aNil)))))))) (gNm 6) (sIf (toB (e2 cNe (e1 reprK (eC F__law_told (aCons (eVar 6) (aNil)))) (eK (.str "(0, None)")))) (sRet (eK (.bl false))) (sNil)))
  (sIf (toB (e2 cNe (eC F__law_refused (aCons (eC F__law_bad_chart (aCons (eVar 2) (aCons (eVar 3) (aNil)))) (aNil))) (eK (.str "chart")))) (sRet (eK (.bl false))) (sNil))))))))))))))
  (sRet (eK (.bl true)))
noncomputable def F_law : FM := Classical.choose (⟨_, rfl⟩ : ∃ F : FM, F = pureF (runF 1 7 b_law))
theorem E_law : F_law = pureF (runF 1 7 b_law) := Classical.choose_spec (⟨_, rfl⟩ : ∃ F : FM, F = pureF (runF 1 7 b_law))
end LW

namespace LW
open PySem L2 MM
def isIg : IV → Bool
  | .int _ => true
  | _ => false
def betw (lo : Int) (x : IV) (hi : Int) : Bool := match x with
  | .int i => decide (lo ≤ i ∧ i ≤ hi)
  | _ => false
theorem f_is_integer {x : IV} (hx : below 0 x = true) (h : IH) : F_is_integer [x] h = .ok (.bl (isIg x)) h := by
  refine spec E_is_integer (by rw [b_cons, hx]; rfl) rfl ?_ h
  show wp (b_is_integer [some x] []) _
  unfold b_is_integer
  cases x with
  | ref k => simp [below] at hx
  | _ => simp_arith [isIg]; try rfl
theorem f_is_between {x : IV} {lo hi : Int} (hx : below 0 x = true) (h : IH) : F_is_between [.int lo, x, .int hi] h = .ok (.bl (betw lo x hi)) h := by
  refine spec E_is_between (by rw [b_cons, b_cons, hx]; rfl) rfl ?_ h
  show wp (b_is_between [some (.int lo), some x, some (.int hi)] []) _
  unfold b_is_between
  simp_arith [f_is_integer hx]
  cases x with
  | int i =>
    simp_arith [isIg, betw]
    by_cases h1 : lo ≤ i <;> by_cases h2 : i ≤ hi <;> simp [h1, h2]
  | _ => simp [isIg, betw, Rt_bl]
def chartB : IV → Bool
  | .tup xs => decide (1 ≤ xs.length ∧ xs.length ≤ 10) && xs.all fun x => betw 0 x ((xs.length : Int) - 1)
  | _ => false
theorem belows_mem {n : Nat} : ∀ {xs : List IV}, belows n xs = true → ∀ x ∈ xs, below n x = true
  | y :: ys, b, x, hx => by
    rw [b_cons, Bool.and_eq_true] at b
    rcases List.mem_cons.mp hx with rfl | hx
    · exact b.1
    · exact belows_mem b.2 x hx
theorem f_is_chart {v : IV} (hv : below 0 v = true) (h : IH) : F_is_chart [v] h = .ok (.bl (chartB v)) h := by
  refine spec E_is_chart (by rw [b_cons, hv]; rfl) rfl ?_ h
  show wp (b_is_chart [some v, none] []) _
  unfold b_is_chart
  cases v with
  | ref k => simp [below] at hv
  | tup xs =>
    rw [b_tup] at hv
    simp_arith []
    by_cases h1 : (1 : Int) ≤ xs.length
    · by_cases h2 : (xs.length : Int) ≤ 10
      · simp_arith [h1, h2, decide_true]
        refine ⟨szOk (n := xs.length) (by omega), ?_⟩
        refine lc_mapV (fun x => .bl (betw 0 x ((xs.length : Int) - 1))) rfl (fun x hx => ⟨_, rfl, ?_⟩) ?_
        · simp_arith [id, f_is_between (belows_mem hv x hx)]
        · refine ⟨_, bls_of (xs.map fun x => betw 0 x ((xs.length : Int) - 1)) ▸ (by rw [List.map_map]; rfl : blsOf (xs.map fun x => .bl (betw 0 x ((xs.length : Int) - 1))) = blsOf ((xs.map fun x => betw 0 x ((xs.length : Int) - 1)).map .bl)), ?_⟩
          have : (List.all (xs.map fun x => betw 0 x ((xs.length : Int) - 1)) id) = chartB (.tup xs) := by
            show _ = (decide (1 ≤ xs.length ∧ xs.length ≤ 10) && _)
            rw [List.all_map, decide_eq_true (by omega)]
            rfl
          rw [this]
      · simp only [h1, h2]
        have : ¬ (1 ≤ xs.length ∧ xs.length ≤ 10) := by omega
        simp [chartB, Rt_bl, this]
    · have : ¬ (1 ≤ xs.length ∧ xs.length ≤ 10) := by omega
      simp [h1, chartB, Rt_bl, this]
  | _ => simp_arith [chartB]
theorem f_check_chart {v : IV} (hv : below 0 v = true) (c : chartB v = true) (h : IH) : F_check_chart [v] h = .ok .non h := by
  refine spec E_check_chart (by rw [b_cons, hv]; rfl) rfl ?_ h
  show wp (b_check_chart [some v] []) _
  unfold b_check_chart
  simp_arith [f_is_chart hv, c]
theorem f_check_chartX {v : IV} (hv : below 0 v = true) (c : chartB v = false) (h : IH) : F_check_chart [v] h = .exc ⟨1, none⟩ h := by
  refine specX E_check_chart (by rw [b_cons, hv]; rfl) rfl ?_ h
  show wp (b_check_chart [some v] []) _
  unfold b_check_chart
  simp_arith [f_is_chart hv, c]
/-! the cup -/
structure Cup (ys : List IV) : Prop where
  ex : ∃ a b : Int, ys = [.int a, .int b] ∧ 0 ≤ a ∧ 0 ≤ b ∧ b < 2 ^ 32
theorem f_cup (c : Int) : ∃ zs, (∀ h, F__law_cup [.int c] h = .ok (.ref h.length) (h ++ [.lst zs])) ∧ belows 0 zs = true ∧ Cup zs := by
  refine specN E__law_cup rfl rfl ?_
  show wp (b__law_cup [some (.int c)] []) _
  unfold b__law_cup
  simp_arith []
  have : (Int.natAbs 10 : Nat) = 10 := rfl
  rw [this]
  refine ⟨by decide, fun h1 => ⟨by decide, ?_⟩, fun h1 => ?_⟩
  · exact ⟨0, _, rfl, rfl, rfl, ⟨_, _, rfl, by omega, by omega, by omega⟩⟩
  · exact ⟨0, _, rfl, rfl, rfl, ⟨_, _, rfl, by omega, by omega, by omega⟩⟩
theorem gsb0 {fi : EM} {fo : EM} {e : IEnv} {h : IH} {k : Nat} {x y v : IV} (h1 : fo e h = .ok (.ref k) h) (h2 : fi e h = .ok (.int 0) h) (hk : h[k]? = some (.lst [x, y])) : gSb fo fi v e h = some (e, h.set k (.lst [v, y])) := by
  rw [o_set h1 h2 hk (by decide) (by simp)]
  rfl
theorem gsb1 {fi : EM} {fo : EM} {e : IEnv} {h : IH} {k : Nat} {x y v : IV} (h1 : fo e h = .ok (.ref k) h) (h2 : fi e h = .ok (.int 1) h) (hk : h[k]? = some (.lst [x, y])) : gSb fo fi v e h = some (e, h.set k (.lst [x, v])) := by
  rw [o_set h1 h2 hk (by decide) (by simp)]
  rfl
theorem f_sip {ys : List IV} (c : Cup ys) {n : Int} (n1 : 1 ≤ n) (n2 : n < 2 ^ 32) : ∃ (d : Int) (zs : List IV), (∀ k h, h[k]? = some (.lst ys) → F__law_sip [.ref k, .int n] h = .ok (.int d) (h.set k (.lst zs))) ∧ 0 ≤ d ∧ d < n ∧ belows 0 zs = true ∧ Cup zs := by
  obtain ⟨a, b, rfl, a0, b0, b1⟩ := c.ex
  have q := specC (ws := [.int n]) (xs := [.int a, .int b]) (Q := fun w zs => ∃ d : Int, w = .int d ∧ 0 ≤ d ∧ d < n ∧ Cup zs) E__law_sip rfl rfl rfl ?_
  · obtain ⟨w, zs, q1, -, q3, d, rfl, d0, d1, cz⟩ := q
    exact ⟨d, zs, q1, d0, d1, q3, cz⟩
  show wp (b__law_sip [some (.ref 0), some (.int n), none] [.lst [.int a, .int b]]) _
  unfold b__law_sip
  simp_arith []
  have l : n.natAbs.log2 < 9000 := by
    have : n.natAbs.log2 < 32 := (Nat.log2_lt (by omega)).mpr (by omega)
    omega
  refine ⟨fun h1 => ⟨by omega, by omega, l, ?_⟩, fun h1 => ⟨.inl (.inl (by omega)), by decide, by omega, ?_⟩⟩
  · exact RtC.val rfl rfl ⟨_, rfl, Int.emod_nonneg _ (by omega), Int.emod_lt_of_pos _ (by omega), ⟨_, _, rfl, Int.ediv_nonneg a0 (by omega), b0, b1⟩⟩
  · exact RtC.val rfl rfl ⟨_, rfl, Int.emod_nonneg _ (by omega), Int.emod_lt_of_pos _ (by omega), ⟨_, _, rfl, a0, by omega, by omega⟩⟩
theorem row_of {n : Int} {rs : List Int} (h1 : 1 ≤ n) (h2 : n ≤ 10) (p : rs.Perm (rng n)) : Row n rs :=
  ⟨⟨by rw [p.length_eq, rng_len]; omega, h1, h2, fun x hx => rng_mem.mp (p.mem_iff.mp hx)⟩, p.nodup_iff.mpr ((rng_sorted n).imp fun h => Int.ne_of_lt h)⟩
theorem Cup.bel {ys : List IV} (c : Cup ys) : belows 0 ys = true := by obtain ⟨a, b, rfl, _⟩ := c.ex; rfl
theorem f_row {ys : List IV} (c : Cup ys) {n : Int} (n1 : 1 ≤ n) (n2 : n ≤ 10) : ∃ (rs : List Int) (zs : List IV), (∀ k h, h[k]? = some (.lst ys) → F__law_row [.ref k, .int n] h = .ok (.fz (iz rs)) (h.set k (.lst zs))) ∧ Row n rs ∧ belows 0 zs = true ∧ Cup zs := by
  have q := specC (ws := [.int n]) (xs := ys) (Q := fun w zs => ∃ rs : List Int, w = .fz (iz rs) ∧ Row n rs ∧ Cup zs) E__law_row rfl c.bel rfl ?_
  · obtain ⟨w, zs, q1, -, q3, rs, rfl, d0, cz⟩ := q
    exact ⟨rs, zs, q1, d0, q3, cz⟩
  show wp (b__law_row [some (.ref 0), some (.int n), none, none] [.lst ys]) _
  unfold b__law_row
  simp_arith [lRange_rng]
  refine ⟨rgOk0 (by omega) (by omega), ?_⟩
  refine wp_while (fun m e h => ∃ (zs : List IV) (left got : List Int), e = [some (.ref 0), some (.int n), some (.ref 1), some (.ref 2)] ∧ h = [.lst zs, .lst (iz left), .lst (iz got)] ∧ Cup zs ∧ (got ++ left).Perm (rng n) ∧ m = left.length) (rng n).length (by rw [rng_len]; omega) ⟨ys, rng n, [], rfl, rfl, c, .refl _, rfl⟩ ?_
  rintro m e h ⟨zs, left, got, rfl, rfl, cz, pm, rfl⟩
  have pl : got.length + left.length = n.toNat := by rw [← List.length_append, pm.length_eq, rng_len]
  simp_arith [cNe_r (h := [.lst zs, .lst (iz left), .lst (iz got)]) (k := 1) rfl, ne_nil (pl_fz left), iz_empty, iz_len]
  refine ⟨fun ne => ?_, fun nil => ?_⟩
  · have hl : 0 < left.length := by cases left with | nil => cases ne | cons => simp
    obtain ⟨d, zs', q1, d0, d1, bz, cz'⟩ := f_sip cz (n := left.length) (by omega) (by omega)
    refine ⟨hl, ?_⟩
    rw [q1 0 _ rfl]
    simp_arith [mPop1_iz (h := [.lst zs', .lst (iz left), .lst (iz got)]) (k := 1) rfl d0 d1 (by omega), iz_len, iz_snoc]
    have ll : (left.eraseIdx d.toNat).length = left.length - 1 := List.length_eraseIdx_of_lt (by omega)
    refine ⟨by omega, _, by rw [ll]; omega, zs', left.eraseIdx d.toNat, got ++ [geti left d], rfl, cz', ?_, rfl⟩
    have pe := perm_erase left d.toNat (by omega)
    rw [List.append_assoc]
    refine (List.Perm.append_left got ?_).trans pm
    have eg : geti left d = left[d.toNat]'(by omega) := by
      unfold geti
      rw [List.getD_eq_getElem?_getD, List.getElem?_eq_getElem (by omega)]
      rfl
    rw [eg]
    exact pe
  · have e0 : left = [] := List.isEmpty_iff.mp nil
    subst e0
    rw [List.append_nil] at pm
    exact RtC.lst (t := [.lst (iz []), .lst (iz got)]) (k := 1) rfl (below_iz 0 got) cz.bel ⟨got, rfl, row_of n1 n2 pm, cz⟩
theorem f_chart {ys : List IV} (c : Cup ys) {n : Int} (n1 : 1 ≤ n) (n2 : n ≤ 10) : ∃ (xs : List Int) (zs : List IV), (∀ k h, h[k]? = some (.lst ys) → F__law_chart [.ref k, .int n] h = .ok (.tup (iz xs)) (h.set k (.lst zs))) ∧ Ch n xs ∧ belows 0 zs = true ∧ Cup zs := by
  have q := specC (ws := [.int n]) (xs := ys) (Q := fun w zs => ∃ xs : List Int, w = .tup (iz xs) ∧ Ch n xs ∧ Cup zs) E__law_chart rfl c.bel rfl ?_
  · obtain ⟨w, zs, q1, -, q3, rs, rfl, d0, cz⟩ := q
    exact ⟨rs, zs, q1, d0, q3, cz⟩
  show wp (b__law_chart [some (.ref 0), some (.int n), none, none, none, none, none] [.lst ys]) _
  unfold b__law_chart
  obtain ⟨way, z1, q1, w0, w1, -, c1⟩ := f_sip c (n := 4) (by decide) (by decide)
  obtain ⟨rs, z2, q2, rw_, -, c2⟩ := f_row c1 n1 n2
  have hrs := rw_.ch.len
  simp_arith [q1 0 [.lst ys] rfl, q2 0 [.lst z1] rfl, rep_iz, lRange_rng]
  refine ⟨by omega, by omega, by omega, rgOk0 (by omega) (by omega), ?_⟩
  refine wp_forL (fun _ e h => ∃ (zs : List IV) (fs : List Int) (a b : Option IV), e = [some (.ref 0), some (.int n), some (.ref 1), a, some (.int way), some (.fz (iz rs)), b] ∧ h = [.lst zs, .lst (iz fs)] ∧ Cup zs ∧ Ch n fs) ⟨z2, _, _, _, rfl, rfl, c2, ⟨by rw [List.length_replicate]; omega, n1, n2, fun x hx => by rw [List.eq_of_mem_replicate hx]; omega⟩⟩ (fun _ _ _ _ => rfl) ?_ ?_
  · rintro l x r e h hx ⟨zs, fs, a, b, rfl, rfl, cz, cf⟩
    have xr := rng_mem.mp (show x ∈ rng n by rw [hx]; simp)
    refine ⟨_, _, rfl, ?_⟩
    obtain ⟨t, z3, q3, t0, t1, -, c3⟩ := f_sip cz (n := n) n1 (by omega)
    obtain ⟨t5, z5, q5, t50, t51, -, c5⟩ := f_sip c3 (n := 5) (by decide) (by decide)
    obtain ⟨t4, z4, q4, t40, t41, -, c4⟩ := f_sip c3 (n := 4) (by decide) (by decide)
    obtain ⟨t6, z6, q6, t60, t61, -, c6⟩ := f_sip c5 (n := 4) (by decide) (by decide)
    have end_ : ∀ (u : Int) (zs' : List IV) (A : IV → IH → Prop) (B C : IEnv → IH → Prop) (D : XC → IEnv → IH → Prop), 0 ≤ u → u < n → Cup zs' → wp (sAsg (eIx (eVar 5) (eVar 6)) (gSb (eVar 2) (eIx (eVar 5) (eVar 3))) [some (.ref 0), some (.int n), some (.ref 1), some (.int x), some (.int way), some (.fz (iz rs)), some (.int u)] [.lst zs', .lst (iz fs)])
        ⟨fun e h => ∃ (zs : List IV) (fs : List Int) (a b : Option IV), e = [some (.ref 0), some (.int n), some (.ref 1), a, some (.int way), some (.fz (iz rs)), b] ∧ h = [.lst zs, .lst (iz fs)] ∧ Cup zs ∧ Ch n fs, A, B, C, D⟩ := by
      intro u zs' A B C D u0 u1 cz'
      have g1 := rw_.ch.get u0 u1
      have g2 := rw_.ch.get xr.1 xr.2
      have fl := cf.len
      simp_arith [atI_iz u0 (show u < rs.length by omega), atI_iz xr.1 (show x < rs.length by omega), iz_len, ixN_of g2.1 (show geti rs x < fs.length by omega), iz_set]
      exact ⟨zs', _, _, _, rfl, rfl, cz', ⟨by rw [List.length_set]; exact fl, n1, n2, fun y hy => by
        rcases List.mem_or_eq_of_mem_set hy with h | h
        · exact cf.mem y h
        · rw [h]; exact g1⟩⟩
    generalize sAsg (eIx (eVar 5) (eVar 6)) (gSb (eVar 2) (eIx (eVar 5) (eVar 3))) = S at end_ ⊢
    simp_arith [q3 0 [.lst zs, .lst (iz fs)] rfl, q5 0 [.lst z3, .lst (iz fs)] rfl, q4 0 [.lst z3, .lst (iz fs)] rfl, q6 0 [.lst z5, .lst (iz fs)] rfl]
    have xn : 0 < 1 + x / 3 := by omega
    have m2 : ∀ u : Int, 0 ≤ u % (1 + x / 3) := fun u => Int.emod_nonneg _ (by omega)
    have m3 : ∀ u : Int, u % (1 + x / 3) < n := fun u => Int.lt_of_lt_of_le (Int.emod_lt_of_pos _ xn) (by omega)
    repeat' (first | (apply end_ <;> first | assumption | omega | (apply m2 <;> omega) | (apply m3 <;> omega)) | omega | (show (3 : Nat).log2 < 9000; decide) | refine ⟨?_, ?_⟩ | intro _)
  · rintro e h ⟨zs, fs, a, b, rfl, rfl, cz, cf⟩
    simp_arith []
    refine ⟨fun _ => RtC.val (below_tup 0 fs) cz.bel ⟨fs, rfl, cf, cz⟩, fun _ => RtC.val (below_tup 0 rs) cz.bel ⟨rs, rfl, rw_.ch, cz⟩⟩
end LW

namespace LW
open PySem L2 MM
theorem chartB_of {n : Int} {xs : List Int} (c : Ch n xs) : chartB (.tup (iz xs)) = true := by
  have h1 := c.len
  have h2 := c.lo
  have h3 := c.hi
  unfold chartB
  rw [Bool.and_eq_true, decide_eq_true_eq, iz_len, List.all_eq_true]
  refine ⟨by omega, fun x hx => ?_⟩
  obtain ⟨i, hi, rfl⟩ := List.mem_map.mp hx
  have := c.mem i hi
  exact decide_eq_true (by omega)
theorem betw_iz {lo hi : Int} {xs : List IV} (q : xs.all (fun x => betw lo x hi) = true) : ∃ ns, xs = iz ns ∧ ∀ x ∈ ns, lo ≤ x ∧ x ≤ hi := by
  rw [List.all_eq_true] at q
  induction xs with
  | nil => exact ⟨[], rfl, fun _ h => by cases h⟩
  | cons x xs ih =>
    obtain ⟨ns, rfl, r⟩ := ih fun y hy => q y (List.mem_cons_of_mem _ hy)
    have := q x (List.mem_cons_self ..)
    cases x <;> simp only [betw, Bool.false_eq_true, decide_eq_true_eq] at this
    rename_i i
    exact ⟨i :: ns, rfl, fun y hy => by rcases List.mem_cons.mp hy with rfl | h; exact this; exact r y h⟩
theorem ch_of {v : IV} (q : chartB v = true) : ∃ xs : List Int, v = .tup (iz xs) ∧ Ch xs.length xs := by
  cases v <;> simp only [chartB, Bool.false_eq_true] at q
  rename_i xs
  rw [Bool.and_eq_true, decide_eq_true_eq] at q
  obtain ⟨ns, rfl, r⟩ := betw_iz q.2
  rw [iz_len] at q r
  exact ⟨ns, rfl, ⟨rfl, by omega, by omega, fun x hx => by have := r x hx; omega⟩⟩
/-! the place of a name -/
def inv (ys : List Int) (z : Int) : Int := (ys.idxOf z : Nat)
theorem inv_get {n : Int} {ys : List Int} (r : Row n ys) {z : Int} (h0 : 0 ≤ z) (h1 : z < n) : 0 ≤ inv ys z ∧ inv ys z < n ∧ geti ys (inv ys z) = z := by
  have hm : z ∈ ys := r.perm.mem_iff.mpr (rng_mem.mpr ⟨h0, h1⟩)
  have hl : ys.idxOf z < ys.length := List.idxOf_lt_length_iff.mpr hm
  have := r.ch.len
  unfold inv
  refine ⟨by omega, by omega, ?_⟩
  rw [geti_get hl, List.getElem_idxOf]
theorem get_inv {n : Int} {ys : List Int} (r : Row n ys) {i : Int} (h0 : 0 ≤ i) (h1 : i < n) : inv ys (geti ys i) = i := by
  have g := r.ch.get h0 h1
  have q := inv_get r g.1 g.2
  have := r.inj (i := (inv ys (geti ys i)).toNat) (j := i.toNat) (by omega) (by omega) (by rw [Int.toNat_of_nonneg q.1, Int.toNat_of_nonneg h0]; exact q.2.2)
  omega
def ren (n : Int) (xs ys : List Int) : List Int := (rng n).map fun z => geti ys (geti xs (inv ys z))
theorem ren_ch {n : Int} {xs ys : List Int} (c : Ch n xs) (r : Row n ys) : Ch n (ren n xs ys) := by
  refine ⟨?_, c.lo, c.hi, fun x hx => ?_⟩
  · have := c.lo
    unfold ren
    rw [List.length_map, rng_len]; omega
  · obtain ⟨z, hz, rfl⟩ := List.mem_map.mp hx
    have hz := rng_mem.mp hz
    have q := inv_get r hz.1 hz.2
    have g := c.get q.1 q.2.1
    exact r.ch.get g.1 g.2
theorem ren_get {n : Int} {xs ys : List Int} (c : Ch n xs) (r : Row n ys) {i : Int} (h0 : 0 ≤ i) (h1 : i < n) : geti (ren n xs ys) (geti ys i) = geti ys (geti xs i) := by
  have g := r.ch.get h0 h1
  unfold ren
  rw [geti_map _ g.1 g.2, get_inv r h0 h1]
theorem iz_geti {L M : List Int} (hl : L.length = M.length) (h : ∀ i : Nat, i < L.length → geti L i = geti M i) : L = M := by
  refine List.ext_getElem hl fun i h1 h2 => ?_
  have := h i h1
  rwa [geti_get h1, geti_get h2] at this
theorem geti_set {L : List Int} {i j : Int} {v : Int} (i0 : 0 ≤ i) (i1 : i < L.length) (j0 : 0 ≤ j) (j1 : j < L.length) : geti (L.set i.toNat v) j = if j = i then v else geti L j := by
  unfold geti
  rw [List.getD_eq_getElem?_getD, List.getD_eq_getElem?_getD, List.getElem?_set]
  by_cases e : j = i
  · subst e
    rw [if_pos rfl, if_pos rfl, if_pos (by omega)]; rfl
  · rw [if_neg e, if_neg (by omega)]
def dig (i : Int) : Str := ⟨#[(48 + i.toNat)]⟩
def txt (xs : List Int) : Str := Txt.join "" (xs.map dig)
end LW

namespace LW
open PySem L2 MM
theorem cut_map {α β : Type} (f : α → β) (xs : List α) (lo hi : Option Int) : cut (xs.map f) lo hi = (cut xs lo hi).map f := by
  unfold cut
  rw [List.length_map, List.map_take, List.map_drop]
theorem cut_len {α : Type} (xs : List α) (lo hi : Option Int) : (cut xs lo hi).length ≤ xs.length := by
  unfold cut
  rw [List.length_take, List.length_drop]
  omega
theorem atI_in {xs : List IV} {d : Int} (h0 : 0 ≤ d) (h1 : d < xs.length) : ∃ v, atI xs d = some v ∧ v ∈ xs := by
  rw [atI_at h0 h1, List.getElem?_eq_getElem (by omega)]
  exact ⟨_, rfl, List.getElem_mem _⟩
theorem frz_nil (h : IH) (n : Nat) : frzE h n [] = [] := rfl
theorem frz_cons (h : IH) (n : Nat) (x : Option IV) (e : IEnv) : frzE h n (x :: e) = (x.bind (froz h n 70)) :: frzE h n e := rfl
theorem frz_iz (h : IH) (n : Nat) (ns : List Int) : froz h n 70 (IV.fz (iz ns)) = some (.fz (iz ns)) := froz_self (by rw [b_fz]; exact below_iz n ns)
theorem sbeq (s : Str) : (s == s) = true := beq_self_eq_true s
/-- `all` of a look at each entry of a tuple -/
theorem lc_bl {xs : List IV} {G : IH → Bool} {g : GM} {f : EM} {e : IEnv} {h : IH} {P : List IV → IH → Prop} {X : XC → IH → Prop} (q : IV → Bool) (hG : G h = true) (hx : ∀ x ∈ xs, ∃ e1, g x e h = some (e1, h) ∧ wr (f e1 h) (fun v h1 => v = .bl (q x) ∧ h1 = h) fun _ _ => False) (hP : P ((xs.map q).map .bl) h) : wr (lcM G g tYesM f e xs h) P X :=
  lc_mapV (fun x => .bl (q x)) hG hx (by rw [List.map_map] at hP; exact hP)
end LW

namespace LW
open PySem L2 MM
theorem row_srt {n : Int} {ns : List Int} (h1 : 1 ≤ n) (h2 : n ≤ 10) : sortI ns = rng n ↔ Row n ns := by
  constructor
  · intro e
    exact row_of h1 h2 ((sortI_perm ns).symm.trans (by rw [e]))
  · intro r
    exact sorted_eq (sortI_sorted ns) ((rng_sorted n).imp fun h => Int.le_of_lt h) ((sortI_perm ns).trans r.perm)
theorem f_text_of {n : Int} {xs : List Int} (c : Ch n xs) (h : IH) : F_text_of [.tup (iz xs)] h = .ok (.str (txt xs)) h := by
  have h1 := c.len
  have h4 := c.hi
  refine spec E_text_of (by rw [b_cons, below_tup]; rfl) rfl ?_ h
  show wp (b_text_of [some (.tup (iz xs)), none] []) _
  unfold b_text_of
  simp_arith [wr_join, iz_len]
  refine ⟨by omega, lc_map' (fun x => .str (dig x)) rfl (fun x hx => ⟨_, rfl, ?_⟩) ?_⟩
  · have hm := c.mem x hx
    simp_arith []
    have : x = 0 ∨ x = 1 ∨ x = 2 ∨ x = 3 ∨ x = 4 ∨ x = 5 ∨ x = 6 ∨ x = 7 ∨ x = 8 ∨ x = 9 := by omega
    rcases this with rfl | rfl | rfl | rfl | rfl | rfl | rfl | rfl | rfl | rfl <;> exact wr_of rfl ⟨rfl, rfl⟩
  · refine ⟨xs.map dig, by rw [show (xs.map fun x => IV.str (dig x)) = (xs.map dig).map .str from (List.map_map ..).symm]; exact strsOf_strs (xs.map dig), ?_, rfl⟩
    have : ((xs.map dig).map (·.length)).sum = xs.length := by
      clear h1 h4 c
      induction xs with
      | nil => rfl
      | cons x xs ih => rw [List.map_cons, List.map_cons, List.sum_cons, ih, List.length_cons]; show 1 + _ = _; omega
    rw [this, List.length_map]
    show xs.length + xs.length * 0 ≤ _
    omega
end LW

namespace LW
open PySem L2 MM
/-- what may be judged -/
structure Good (v : IV) : Prop where
  bl : below 0 v = true
  tw : Tw 45 5000 v
theorem Good.tl {v : IV} (g : Good v) : Tl v := g.tw.tl (by decide) (by decide)
theorem f_chart_textX {v : IV} (hv : below 0 v = true) (c : chartB v = false) (h : IH) : F_chart_text [v] h = .exc ⟨1, none⟩ h := by
  refine specX E_chart_text (by rw [b_cons, hv]; rfl) rfl ?_ h
  show wp (b_chart_text [some v] []) _
  unfold b_chart_text
  simp_arith [f_check_chartX hv c]
theorem pick10 (a b : IV) : pick [1, 0] [a, b] = [b, a] := rfl
theorem pick1 (a : IV) : pick [0] [a] = [a] := rfl
theorem hdl1 (e : IEnv) (h : IH) (f g : SM) : hdl xtb ⟨1, none⟩ e h [(1, f), (0, g)] = (f e h).nox := rfl
theorem f_chart_text {n : Int} {xs : List Int} (c : Ch n xs) (h : IH) : F_chart_text [.tup (iz xs)] h = .ok (.str (txt xs)) h := by
  refine spec E_chart_text (by rw [b_cons, below_tup]; rfl) rfl ?_ h
  show wp (b_chart_text [some (.tup (iz xs))] []) _
  unfold b_chart_text
  simp_arith [f_check_chart (below_tup 0 xs) (chartB_of c), f_text_of c]
theorem row0 : Row 1 [0] := ⟨⟨rfl, by decide, by decide, fun x hx => by rw [List.mem_singleton] at hx; subst hx; decide⟩, by simp⟩
end LW

namespace LW
open PySem L2 MM
theorem nochart_len {xs : List IV} (h : ¬ (1 ≤ xs.length ∧ xs.length ≤ 10)) : chartB (.tup xs) = false := by
  show (decide (1 ≤ xs.length ∧ xs.length ≤ 10) && _) = false
  rw [decide_eq_false h]; rfl
theorem nochart_odd {xs : List IV} {x : IV} (hx : x ∈ xs) (h : betw 0 x ((xs.length : Int) - 1) = false) : chartB (.tup xs) = false := by
  show (decide (1 ≤ xs.length ∧ xs.length ≤ 10) && xs.all fun x => betw 0 x ((xs.length : Int) - 1)) = false
  rw [Bool.and_eq_false_iff]
  right
  rw [List.all_eq_false]
  exact ⟨x, hx, by rw [h]; decide⟩
theorem f_bad_chartB {ys : List IV} (c : Cup ys) {n : Int} {xs : List Int} (cx : Ch n xs) : ∃ (w : IV) (zs : List IV), (∀ k h, h[k]? = some (.lst ys) → F__law_bad_chart [.ref k, .tup (iz xs)] h = .ok w (h.set k (.lst zs))) ∧ below 0 w = true ∧ chartB w = false ∧ belows 0 zs = true ∧ Cup zs := by
  have q := specC (ws := [.tup (iz xs)]) (xs := ys) (Q := fun w zs => chartB w = false ∧ Cup zs) E__law_bad_chart (by rw [b_cons, below_tup]; rfl) c.bel rfl ?_
  · obtain ⟨w, zs, q1, bw, q3, gw, cz⟩ := q
    exact ⟨w, zs, q1, bw, gw, q3, cz⟩
  show wp (b__law_bad_chart [some (.ref 0), some (.tup (iz xs)), none, none, none, none] [.lst ys]) _
  unfold b__law_bad_chart
  have hl := cx.len
  have n1 := cx.lo
  have n2 := cx.hi
  obtain ⟨at_, z1, q1, a0, a1, -, c1⟩ := f_sip c n1 (by omega)
  obtain ⟨d4, z2, q2, d40, d41, -, c2⟩ := f_sip c1 (n := 4) (by decide) (by decide)
  obtain ⟨d11, z3, q3, d110, d111, -, c3⟩ := f_sip c2 (n := 11) (by decide) (by decide)
  obtain ⟨e1, y1, r1, e10, e11, -, k1⟩ := f_sip c2 (n := 200) (by decide) (by decide)
  obtain ⟨e2, y2, r2, e20, e21, -, k2⟩ := f_sip k1 (n := 200) (by decide) (by decide)
  obtain ⟨e3, y3, r3, e30, e31, -, k3⟩ := f_sip k2 n1 (by omega)
  obtain ⟨e4, y4, r4, e40, e41, -, k4⟩ := f_sip k3 (n := 13) (by decide) (by decide)
  have hn : ((iz xs).length : Int) = n := by rw [iz_len]; exact hl
  simp_arith [hn, q1 0 [.lst ys] rfl, q2 0 [.lst z1] rfl, q3 0 [.lst z2] rfl, r1 0 [.lst z2] rfl, r2 0 [.lst y1] rfl, r3 0 [.lst y2] rfl, r4 0 [.lst y3] rfl, List.replicate_succ, List.replicate_zero]
  have tk : (cut (iz xs) none (some at_)) = iz (xs.take at_.toNat) := by
    rw [cut_lo a0 (by rw [iz_len]; omega), iz, iz, List.map_take]
  have dr : (cut (iz xs) (some (at_ + 1)) none) = iz (xs.drop (at_ + 1).toNat) := by
    rw [cut_hi (by omega) (by rw [iz_len]; omega), iz, iz, List.map_drop]
  have l1 : (xs.take at_.toNat).length = at_.toNat := by rw [List.length_take]; omega
  have l2 : (xs.drop (at_ + 1).toNat).length = xs.length - (at_ + 1).toNat := by rw [List.length_drop]
  refine ⟨fun hd => ⟨by simp, ?_⟩, fun hd => ⟨by decide, ?_⟩⟩
  · have g : ∀ u ∈ [IV.fz (iz xs), IV.non, IV.str (Str.ofString "0"), IV.tup [], IV.int n, IV.tup [[IV.int 0], [IV.int 0], [IV.int 0], [IV.int 0], [IV.int 0], [IV.int 0], [IV.int 0], [IV.int 0], [IV.int 0], [IV.int 0], [IV.int 0]].flatten, IV.fz [IV.int 0], IV.tup [IV.tup (iz xs)], IV.bl true, IV.tup [IV.non], IV.tup [IV.str (Str.ofString "0")]], below 0 u = true ∧ chartB u = false := by
      simp only [List.forall_mem_cons]
      exact ⟨⟨by rw [b_fz]; exact below_iz 0 xs, rfl⟩, ⟨rfl, rfl⟩, ⟨rfl, rfl⟩, ⟨rfl, rfl⟩, ⟨rfl, rfl⟩, ⟨rfl, rfl⟩, ⟨rfl, rfl⟩, ⟨by rw [b_tup, b_cons, below_tup]; rfl, rfl⟩, ⟨rfl, rfl⟩, ⟨rfl, rfl⟩, ⟨rfl, rfl⟩, fun _ h => by cases h⟩
    obtain ⟨v, hv, hm⟩ := atI_in (xs := [IV.fz (iz xs), IV.non, IV.str (Str.ofString "0"), IV.tup [], IV.int n, IV.tup [[IV.int 0], [IV.int 0], [IV.int 0], [IV.int 0], [IV.int 0], [IV.int 0], [IV.int 0], [IV.int 0], [IV.int 0], [IV.int 0], [IV.int 0]].flatten, IV.fz [IV.int 0], IV.tup [IV.tup (iz xs)], IV.bl true, IV.tup [IV.non], IV.tup [IV.str (Str.ofString "0")]]) d110 (by simpa using d111)
    refine ⟨v, hv, ?_⟩
    have := g v hm
    exact RtC.val this.1 c3.bel ⟨this.2, c3⟩
  · rw [tk, dr]
    have g : ∀ u ∈ [IV.int n, IV.int (-1), IV.bl true, IV.bl false, IV.non, IV.str (Str.ofString "0"), IV.tup [IV.int 0], IV.fz [IV.int 0], IV.int 1000000000000000000000000000000, IV.int (n + 1), IV.int (n + 1 + e1), IV.int (-2 - e2), IV.int (11 * e3 + 10)], below 0 u = true ∧ betw 0 u (n - 1) = false := by
      simp only [List.forall_mem_cons]
      have bf : ∀ i : Int, (i < 0 ∨ n ≤ i) → below 0 (.int i) = true ∧ betw 0 (.int i) (n - 1) = false := fun i hi => ⟨rfl, decide_eq_false (by omega)⟩
      exact ⟨bf _ (by omega), bf _ (by omega), ⟨rfl, rfl⟩, ⟨rfl, rfl⟩, ⟨rfl, rfl⟩, ⟨rfl, rfl⟩, ⟨rfl, rfl⟩, ⟨rfl, rfl⟩, bf _ (by omega), bf _ (by omega), bf _ (by omega), bf _ (by omega), bf _ (by omega), fun _ h => by cases h⟩
    obtain ⟨v, hv, hm⟩ := atI_in (xs := [IV.int n, IV.int (-1), IV.bl true, IV.bl false, IV.non, IV.str (Str.ofString "0"), IV.tup [IV.int 0], IV.fz [IV.int 0], IV.int 1000000000000000000000000000000, IV.int (n + 1), IV.int (n + 1 + e1), IV.int (-2 - e2), IV.int (11 * e3 + 10)]) e40 (by simpa using e41)
    have gv := g v hm
    have ll : ((iz (xs.take at_.toNat) ++ [v] ++ iz (xs.drop (at_ + 1).toNat)).length : Int) = n := by
      rw [List.length_append, List.length_append, iz_len, iz_len, l1, l2, List.length_singleton]; omega
    refine ⟨v, hv, by rw [iz_len]; omega, by rw [List.length_append, iz_len, iz_len, List.length_singleton]; omega, RtC.val ?_ k4.bel ⟨?_, k4⟩⟩
    · rw [b_tup, b_app, b_app, below_iz, below_iz, b_cons, gv.1]; rfl
    · exact nochart_odd (x := v) (by simp) (by rw [ll]; exact gv.2)
end LW

namespace LW
open PySem L2 MM
/-! paths, rings, depths: pure -/
theorem path_ext {n p : Int} {xs : List Int} (c : Ch n xs) (p0 : 0 ≤ p) (p1 : p < n) : ∀ (k : Nat) (L : List Int), n.toNat - L.length ≤ k → 0 < L.length → (∀ i (h : i < L.length), L[i] = itn xs i p) → L.Nodup → ∃ L, IsPath xs p L := by
  intro k
  induction k with
  | zero =>
    intro L hk hl hg nd
    have hm : ∀ x ∈ L, 0 ≤ x ∧ x < n := fun x hx => by
      obtain ⟨i, hi, rfl⟩ := List.getElem_of_mem hx
      rw [hg i hi]; exact c.itn i p0 p1
    by_cases hc : itn xs L.length p ∈ L
    · exact ⟨L, ⟨hl, hg, nd, hc⟩⟩
    · exfalso
      have v := c.itn L.length p0 p1
      have := nodup_len (n := n) (L := itn xs L.length p :: L) (List.nodup_cons.mpr ⟨hc, nd⟩) (fun x hx => by rcases List.mem_cons.mp hx with rfl | h; exact v; exact hm x h)
      rw [List.length_cons] at this
      omega
  | succ k ih =>
    intro L hk hl hg nd
    by_cases hc : itn xs L.length p ∈ L
    · exact ⟨L, ⟨hl, hg, nd, hc⟩⟩
    · refine ih (L ++ [itn xs L.length p]) (by rw [List.length_append, List.length_singleton]; omega) (by rw [List.length_append]; omega) (fun i hi => ?_) ?_
      · rw [List.length_append, List.length_singleton] at hi
        by_cases h : i < L.length
        · rw [List.getElem_append_left h]; exact hg i h
        · have : i = L.length := by omega
          subst this
          rw [List.getElem_append_right (Nat.le_refl _)]
          simp
      · exact List.nodup_append.mpr ⟨nd, by simp, fun a ha b hb => by rw [List.mem_singleton] at hb; subst hb; exact fun e => hc (e ▸ ha)⟩
theorem one_path (xs : List Int) (p : Int) : 0 < [p].length ∧ (∀ i (h : i < [p].length), [p][i] = itn xs i p) ∧ [p].Nodup := by
  refine ⟨by simp, fun i hi => ?_, by simp⟩
  have : i = 0 := by simpa using hi
  subst this
  rfl
theorem pths {n : Int} {xs : List Int} (c : Ch n xs) : Pths n xs := by
  have ex : ∀ p, 0 ≤ p → p < n → ∃ L, IsPath xs p L := fun p h0 h1 => path_ext c h0 h1 _ [p] (Nat.le_refl _) (one_path xs p).1 (one_path xs p).2.1 (one_path xs p).2.2
  refine ⟨c, fun p h0 h1 => ?_, fun p h0 h1 => ?_⟩
  · obtain ⟨L, hp⟩ := ex p h0 h1
    rw [pth_is hp]; exact hp
  · obtain ⟨L, hp⟩ := ex p h0 h1
    rw [pth_is hp]
    intro x hx
    obtain ⟨i, hi, rfl⟩ := List.getElem_of_mem hx
    rw [hp.get i hi]; exact c.itn i h0 h1
abbrev itz (Ls : List (List Int)) : List IV := Ls.map fun L => IV.tup (iz L)
theorem itz_below : ∀ (n : Nat) (Ls : List (List Int)), belows n (itz Ls) = true
  | _, [] => rfl
  | n, L :: Ls => by simp only [itz, List.map_cons, belows, below, ints_below, Bool.true_and]; exact itz_below n Ls
theorem rng_filter_len0 (n : Int) (p : Int → Bool) : ((rng n).filter p).length ≤ n.toNat := Nat.le_trans (List.length_filter_le ..) (by rw [rng_len]; exact Nat.le_refl _)
theorem onr_len {xs : List Int} {n : Int} : (onr xs n).length ≤ n.toNat := rng_filter_len0 n _
theorem take_s {l : List Int} {i : Nat} (h : i < l.length) : l.take (i + 1) = l.take i ++ [l[i]] := by
  rw [List.take_succ, List.getElem?_eq_getElem h]
  rfl
theorem fsts_app (xs l l' : List Int) : fsts xs (l ++ l') = fsts xs l ++ fsts xs l' := by
  unfold fsts
  exact List.filter_append ..
open Classical in
theorem fsts_yes {xs : List Int} {x : Int} (h : Fst xs x) : fsts xs [x] = [x] := by
  unfold fsts
  rw [List.filter_cons_of_pos (by rw [decide_eq_true_eq]; exact h)]
  rfl
open Classical in
theorem fsts_no {xs : List Int} {x : Int} (h : ¬ Fst xs x) : fsts xs [x] = [] := by
  unfold fsts
  rw [List.filter_cons_of_neg (by rw [decide_eq_true_eq]; exact h)]
  rfl
theorem take_mem {l : List Int} (hs : l.Pairwise (· < ·)) {i : Nat} (h : i < l.length) {z : Int} : z ∈ l.take i ↔ z ∈ l ∧ z < l[i] := by
  constructor
  · intro hz
    obtain ⟨j, hj, e⟩ := List.getElem_of_mem hz
    rw [List.length_take] at hj
    rw [List.getElem_take] at e
    refine ⟨List.mem_of_mem_take hz, ?_⟩
    rw [← e]
    exact List.pairwise_iff_getElem.mp hs j i (by omega) h (by omega)
  · rintro ⟨hz, hl⟩
    obtain ⟨j, hj, e⟩ := List.getElem_of_mem hz
    have : j < i := by
      rcases Nat.lt_trichotomy j i with q | q | q
      · exact q
      · subst q; omega
      · have := List.pairwise_iff_getElem.mp hs i j h hj q; omega
    rw [← e, List.mem_iff_getElem]
    exact ⟨j, by rw [List.length_take]; omega, by rw [List.getElem_take]⟩
theorem fst_self {n x : Int} {xs : List Int} (P : Pths n xs) (x0 : 0 ≤ x) (x1 : x < n) (fx : Fst xs x) : ∃ (t : Nat) (ht : t < (pth xs x).length), minL (pth xs x) = some x ∧ (pth xs x)[t] = x ∧ pth xs x = (pth xs x).drop t ++ (pth xs x).take t := by
  obtain ⟨m, t, ht, e1, et, m0, m1, mx, fm, xm, er⟩ := P.fst x0 x1 fx.1
  have hm : m ∈ pth xs x := by rw [← et]; exact List.getElem_mem ht
  have := fx.2 m hm
  have e : m = x := by omega
  subst e
  exact ⟨t, ht, e1, et, er⟩
theorem rngs_len {n : Int} {xs : List Int} (l : List Int) : ((fsts xs l).map (pth xs)).length ≤ l.length := by
  rw [List.length_map]
  exact List.length_filter_le ..
theorem rngs_ok {n : Int} {xs : List Int} (P : Pths n xs) : (rngs xs n).length ≤ 10 ∧ ∀ r ∈ rngs xs n, r.length ≤ 10 ∧ (∀ x ∈ r, 0 ≤ x ∧ x < n) ∧ ∃ m, 0 ≤ m ∧ m < n ∧ Fst xs m ∧ r = pth xs m := by
  have hi := P.ch.hi
  refine ⟨Nat.le_trans (rngs_len (n := n) _) (by rw [rng_len]; omega), fun r hr => ?_⟩
  obtain ⟨m, hm, rfl⟩ := List.mem_map.mp hr
  obtain ⟨h1, h2⟩ := fsts_mem.mp hm
  have h3 := rng_mem.mp h1
  have ll := P.len h3.1 h3.2
  exact ⟨by omega, P.rg m h3.1 h3.2, m, h3.1, h3.2, h2, rfl⟩
theorem idx_true : ∀ {bs : List Bool}, bs.Pairwise (fun a b => a = true → b = true) → true ∈ bs → idxOf (.bl true) (bs.map .bl) = some (bs.filter (! ·)).length
  | [], _, h => by cases h
  | true :: bs, hp, _ => by
    have hr : ∀ b ∈ bs, b = true := fun b hb => (List.pairwise_cons.mp hp).1 b hb rfl
    have e : bs.filter (! ·) = [] := List.filter_eq_nil_iff.mpr fun b hb => by rw [hr b hb]; decide
    rw [List.filter_cons_of_neg (by decide), e]
    show (if eqF (.bl true) (.bl true) = true then some 0 else (idxOf (.bl true) (bs.map .bl)).map (· + 1)) = _
    rw [if_pos (show eqF (.bl true) (.bl true) = true from rfl)]
    rfl
  | false :: bs, hp, h => by
    have hm : true ∈ bs := by
      rcases List.mem_cons.mp h with e | e
      · cases e
      · exact e
    have ih := idx_true (List.pairwise_cons.mp hp).2 hm
    rw [List.filter_cons_of_pos (by rfl), List.length_cons]
    show (if eqF (.bl false) (.bl true) = true then some 0 else (idxOf (.bl true) (bs.map .bl)).map (· + 1)) = _
    rw [if_neg (by decide), ih]
    rfl
noncomputable def isr (xs : List Int) (n : Int) (y : Int) : Bool := (onr xs n).contains y
/-- how many steps to a ring -/
noncomputable def dep (xs : List Int) (n x : Int) : Nat := ((pth xs x).filter fun y => ! isr xs n y).length
theorem isr_iff {xs : List Int} {n y : Int} (y0 : 0 ≤ y) (y1 : y < n) : isr xs n y = true ↔ OnR xs y := by
  unfold isr
  rw [List.contains_iff_mem, onr_mem]
  exact ⟨fun h => h.2, fun h => ⟨⟨y0, y1⟩, h⟩⟩
theorem dep_idx {n x : Int} {xs : List Int} (P : Pths n xs) (x0 : 0 ≤ x) (x1 : x < n) : idxOf (.bl true) (((pth xs x).map (isr xs n)).map .bl) = some (dep xs n x) := by
  have a := P.is x x0 x1
  obtain ⟨j, hj, ej⟩ := a.at_
  have oj := a.onR_of hj ej (Nat.le_refl _) hj
  have rj := P.rg x x0 x1 _ (List.getElem_mem hj)
  have q := idx_true (bs := (pth xs x).map (isr xs n)) ?_ ?_
  · rw [q]
    unfold dep
    rw [List.filter_map, List.length_map]
    rfl
  · rw [List.pairwise_map, List.pairwise_iff_getElem]
    intro i k hi hk hik h
    have ri := P.rg x x0 x1 _ (List.getElem_mem hi)
    have rk := P.rg x x0 x1 _ (List.getElem_mem hk)
    have oi := (isr_iff ri.1 ri.2).mp h
    refine (isr_iff rk.1 rk.2).mpr ?_
    have := oi.step (k - i)
    rw [a.get i hi, ← itn_add, show i + (k - i) = k by omega] at this
    rw [a.get k hk]
    exact this
  · exact List.mem_map.mpr ⟨_, List.getElem_mem hj, (isr_iff rj.1 rj.2).mpr oj⟩
noncomputable def deps (xs : List Int) (n : Int) : List Int := (rng n).map fun x => ((dep xs n x : Nat) : Int)
theorem dep_le {n x : Int} {xs : List Int} (P : Pths n xs) (x0 : 0 ≤ x) (x1 : x < n) : dep xs n x ≤ 10 := by
  have := P.len x0 x1
  have := P.ch.hi
  exact Nat.le_trans (List.length_filter_le ..) (by omega)
theorem deps_get {n x : Int} {xs : List Int} (x0 : 0 ≤ x) (x1 : x < n) : geti (deps xs n) x = (dep xs n x : Nat) := geti_map _ x0 x1
theorem deps_ok {n : Int} {xs : List Int} (P : Pths n xs) : ((deps xs n).length : Int) = n ∧ ∀ d ∈ deps xs n, 0 ≤ d ∧ d ≤ 10 := by
  have := P.ch.lo
  refine ⟨by unfold deps; rw [List.length_map, rng_len]; omega, fun d hd => ?_⟩
  obtain ⟨x, hx, rfl⟩ := List.mem_map.mp hd
  have hm := rng_mem.mp hx
  have := dep_le P hm.1 hm.2
  omega
theorem maxL_get {L : List Int} (h : 0 < L.length) : ∃ m, maxL L = some m ∧ m ∈ L := by
  cases L with
  | nil => simp at h
  | cons x xs => exact ⟨_, rfl, (maxL_fold xs x).1⟩
theorem hgt_ex {n : Int} {xs : List Int} (P : Pths n xs) : ∃ m, maxL (deps xs n) = some m ∧ 0 ≤ m ∧ m ≤ 10 := by
  have a := deps_ok P
  have := P.ch.lo
  obtain ⟨m, e, hm⟩ := maxL_get (L := deps xs n) (by omega)
  exact ⟨m, e, a.2 m hm⟩
def lcmL (ls : List Nat) : Nat := ls.foldl Nat.lcm 1
theorem lcm_fold_dvd {m : Nat} : ∀ (ls : List Nat) (a : Nat), ls.foldl Nat.lcm a ∣ m ↔ a ∣ m ∧ ∀ l ∈ ls, l ∣ m
  | [], a => by simp
  | l :: ls, a => by
    rw [List.foldl_cons, lcm_fold_dvd ls, Nat.lcm_dvd_iff]
    simp only [List.mem_cons, forall_eq_or_imp]
    exact ⟨fun ⟨⟨p, q⟩, r⟩ => ⟨p, q, r⟩, fun ⟨p, q, r⟩ => ⟨⟨p, q⟩, r⟩⟩
theorem lcmL_dvd {m : Nat} {ls : List Nat} : lcmL ls ∣ m ↔ ∀ l ∈ ls, l ∣ m := by
  unfold lcmL
  rw [lcm_fold_dvd]
  exact ⟨fun h => h.2, fun h => ⟨Nat.one_dvd _, h⟩⟩
theorem dvd2520 {l : Nat} (h1 : 1 ≤ l) (h2 : l ≤ 10) : l ∣ 2520 := by
  have : l = 1 ∨ l = 2 ∨ l = 3 ∨ l = 4 ∨ l = 5 ∨ l = 6 ∨ l = 7 ∨ l = 8 ∨ l = 9 ∨ l = 10 := by omega
  rcases this with rfl | rfl | rfl | rfl | rfl | rfl | rfl | rfl | rfl | rfl <;> decide
theorem lcmL_le {ls : List Nat} (h : ∀ l ∈ ls, 1 ≤ l ∧ l ≤ 10) : 1 ≤ lcmL ls ∧ lcmL ls ≤ 2520 := by
  have d : lcmL ls ∣ 2520 := lcmL_dvd.mpr fun l hl => dvd2520 (h l hl).1 (h l hl).2
  exact ⟨Nat.pos_of_dvd_of_pos d (by decide), Nat.le_of_dvd (by decide) d⟩
noncomputable def lens (xs : List Int) (n : Int) : List Nat := (rngs xs n).map List.length
theorem lens_ok {n : Int} {xs : List Int} (P : Pths n xs) : (lens xs n).length ≤ 10 ∧ ∀ l ∈ lens xs n, 1 ≤ l ∧ l ≤ 10 := by
  have ro := rngs_ok P
  refine ⟨by unfold lens; rw [List.length_map]; exact ro.1, fun l hl => ?_⟩
  obtain ⟨r, hr, rfl⟩ := List.mem_map.mp hl
  obtain ⟨h1, h2, m, m0, m1, fm, rfl⟩ := ro.2 r hr
  exact ⟨(P.is m m0 m1).ne, h1⟩
end LW

namespace LW
open PySem L2 MM
/-! when steps come again: pure -/
theorem idxOf_bl : ∀ {bs : List Bool} {j : Nat}, idxOf (.bl true) (bs.map .bl) = some j → ∃ h : j < bs.length, bs[j] = true ∧ ∀ i (hi : i < j), bs[i]'(by omega) = false
  | [], j, h => by cases h
  | true :: bs, j, h => by
    have : some 0 = some j := h
    cases this
    exact ⟨by simp, rfl, fun i hi => absurd hi (Nat.not_lt_zero i)⟩
  | false :: bs, j, h => by
    have h2 : (idxOf (.bl true) (bs.map .bl)).map (· + 1) = some j := h
    cases hj : idxOf (.bl true) (bs.map .bl) with
    | none => rw [hj] at h2; cases h2
    | some i =>
      rw [hj] at h2
      have e : i + 1 = j := Option.some.inj h2
      subst e
      obtain ⟨q1, q2, q3⟩ := idxOf_bl hj
      refine ⟨by simpa using q1, by simpa using q2, fun k hk => ?_⟩
      cases k with
      | zero => rfl
      | succ k => simpa using q3 k (by omega)
theorem dep_on {n x : Int} {xs : List Int} (P : Pths n xs) (x0 : 0 ≤ x) (x1 : x < n) (k : Nat) : OnR xs (itn xs k x) ↔ dep xs n x ≤ k := by
  obtain ⟨h, q1, q2⟩ := idxOf_bl (dep_idx P x0 x1)
  rw [List.length_map] at h
  have a := P.is x x0 x1
  rw [List.getElem_map, a.get _ h] at q1
  have r := P.ch.itn (dep xs n x) x0 x1
  have on := (isr_iff r.1 r.2).mp q1
  constructor
  · intro o
    refine Classical.byContradiction fun hn => ?_
    have hk : k < dep xs n x := by omega
    have q := q2 k hk
    rw [List.getElem_map, a.get _ (by omega)] at q
    have r2 := P.ch.itn k x0 x1
    rw [(isr_iff r2.1 r2.2).mpr o] at q
    cases q
  · intro hk
    have := on.step (k - dep xs n x)
    rwa [← itn_add, show dep xs n x + (k - dep xs n x) = k by omega] at this
theorem ring_dvd {n z : Int} {xs : List Int} (P : Pths n xs) (z0 : 0 ≤ z) (z1 : z < n) (o : OnR xs z) (k : Nat) : itn xs k z = z ↔ (pth xs z).length ∣ k := by
  have a := P.is z z0 z1
  have cl := a.close o
  have e0 : (pth xs z)[0]'a.ne = itn xs (pth xs z).length z := by rw [a.zero, cl]
  constructor
  · intro e
    by_cases hk : (pth xs z).length ≤ k
    · have f := a.far a.ne e0 hk
      rw [e, Nat.sub_zero, Nat.sub_zero, Nat.zero_add] at f
      have hr : k % (pth xs z).length < (pth xs z).length := Nat.mod_lt _ a.ne
      have q : (pth xs z)[k % (pth xs z).length]'hr = (pth xs z)[0]'a.ne := by rw [a.get _ hr, a.zero, ← f]
      exact Nat.dvd_of_mod_eq_zero ((List.getElem_inj a.nd).mp q)
    · have q : (pth xs z)[k]'(by omega) = (pth xs z)[0]'a.ne := by rw [a.get _ (by omega), a.zero, e]
      have := (List.getElem_inj a.nd).mp q
      rw [this]; exact Nat.dvd_zero _
  · rintro ⟨c, rfl⟩
    rw [Nat.mul_comm]
    exact itn_mul cl c
theorem len_in {n z : Int} {xs : List Int} (P : Pths n xs) (z0 : 0 ≤ z) (z1 : z < n) (o : OnR xs z) : (pth xs z).length ∈ lens xs n := by
  obtain ⟨m, t, ht, e1, et, m0, m1, mx, fm, xm, er⟩ := P.fst z0 z1 o
  unfold lens rngs
  rw [List.map_map]
  refine List.mem_map.mpr ⟨m, fsts_mem.mpr ⟨rng_mem.mpr ⟨m0, m1⟩, fm⟩, ?_⟩
  show (pth xs m).length = _
  rw [er, List.length_append, List.length_drop, List.length_take]
  omega
theorem maxL_le {L : List Int} {m : Int} (h : maxL L = some m) : m ∈ L ∧ ∀ y ∈ L, y ≤ m := by
  cases L with
  | nil => cases h
  | cons x xs =>
    have q := maxL_fold xs x
    have e : List.foldl _ x xs = m := Option.some.inj h
    rw [← e]
    exact ⟨q.1, q.2⟩
theorem tab_inj {n : Int} {xs : List Int} {a b : Nat} : tab xs n a = tab xs n b ↔ ∀ x, 0 ≤ x → x < n → itn xs a x = itn xs b x := by
  unfold tab
  constructor
  · intro e x x0 x1
    have := List.map_inj_left.mp e x (rng_mem.mpr ⟨x0, x1⟩)
    exact this
  · intro h
    exact List.map_congr_left fun x hx => h x (rng_mem.mp hx).1 (rng_mem.mp hx).2
theorem step_again {n m : Int} {xs : List Int} (P : Pths n xs) (hm : maxL (deps xs n) = some m) (a c : Nat) (c0 : 0 < c) : tab xs n (a + c) = tab xs n a ↔ m ≤ a ∧ lcmL (lens xs n) ∣ c := by
  have mm := maxL_le hm
  rw [tab_inj]
  have key : ∀ x, 0 ≤ x → x < n → (itn xs (a + c) x = itn xs a x ↔ (dep xs n x ≤ a ∧ (pth xs (itn xs a x)).length ∣ c)) := fun x x0 x1 => by
    rw [itn_add]
    have r := P.ch.itn a x0 x1
    constructor
    · intro e
      have o : OnR xs (itn xs a x) := ⟨c, c0, e⟩
      exact ⟨(dep_on P x0 x1 a).mp o, (ring_dvd P r.1 r.2 o c).mp e⟩
    · rintro ⟨h1, h2⟩
      exact (ring_dvd P r.1 r.2 ((dep_on P x0 x1 a).mpr h1) c).mpr h2
  constructor
  · intro h
    refine ⟨?_, ?_⟩
    · obtain ⟨x, hx, e⟩ := List.mem_map.mp (show m ∈ (rng n).map fun x => ((dep xs n x : Nat) : Int) from mm.1)
      have hx := rng_mem.mp hx
      have := ((key x hx.1 hx.2).mp (h x hx.1 hx.2)).1
      omega
    · rw [lcmL_dvd]
      intro l hl
      unfold lens rngs at hl
      rw [List.map_map] at hl
      obtain ⟨z, hz, rfl⟩ := List.mem_map.mp hl
      obtain ⟨h1, h2⟩ := fsts_mem.mp hz
      have h3 := rng_mem.mp h1
      -- a place of the ring that comes to z behind a steps
      obtain ⟨i, hi⟩ := h2.1.back a
      have q := h z h3.1 h3.2
      show (pth xs z).length ∣ c
      rw [← ring_dvd P h3.1 h3.2 h2.1]
      have q2 := congrArg (itn xs i) q
      rw [itn_add, itn_comm xs i c, hi] at q2
      exact q2
  · rintro ⟨h1, h2⟩ x x0 x1
    have r := P.ch.itn a x0 x1
    have d : dep xs n x ≤ a := by
      have := mm.2 _ (List.mem_map.mpr ⟨x, rng_mem.mpr ⟨x0, x1⟩, rfl⟩ : ((dep xs n x : Nat) : Int) ∈ deps xs n)
      omega
    exact (key x x0 x1).mpr ⟨d, lcmL_dvd.mp h2 _ (len_in P r.1 r.2 ((dep_on P x0 x1 a).mpr d))⟩
/-! the period of at most ten places is at most 30 -/
def mxl (k : Nat) (b : Nat → Bool) : Nat := (List.range k).foldl (fun a i => if b (i + 1) = true then Nat.lcm a (i + 1) else a) 1
def sml (k : Nat) (b : Nat → Bool) : Nat := (List.range k).foldl (fun a i => if b (i + 1) = true then a + (i + 1) else a) 0
def bs10 (b1 b2 b3 b4 b5 b6 b7 b8 b9 b10 : Bool) : Nat → Bool
  | 1 => b1 | 2 => b2 | 3 => b3 | 4 => b4 | 5 => b5 | 6 => b6 | 7 => b7 | 8 => b8 | 9 => b9 | 10 => b10 | _ => false
theorem landau0 : ∀ b1 b2 b3 b4 b5 b6 b7 b8 b9 b10 : Bool, sml 10 (bs10 b1 b2 b3 b4 b5 b6 b7 b8 b9 b10) ≤ 10 → 1 ≤ mxl 10 (bs10 b1 b2 b3 b4 b5 b6 b7 b8 b9 b10) ∧ mxl 10 (bs10 b1 b2 b3 b4 b5 b6 b7 b8 b9 b10) ≤ 30 := by decide +kernel
theorem landau1 (b : Nat → Bool) (h : sml 10 b ≤ 10) : 1 ≤ mxl 10 b ∧ mxl 10 b ≤ 30 := landau0 (b 1) (b 2) (b 3) (b 4) (b 5) (b 6) (b 7) (b 8) (b 9) (b 10) h
theorem mxl_dvd (b : Nat → Bool) {l : Nat} (h1 : 1 ≤ l) (h2 : l ≤ 10) (hb : b l = true) : l ∣ mxl 10 b := by
  have go : ∀ (k : Nat) (a : Nat), a ∣ (List.range k).foldl (fun a i => if b (i + 1) = true then Nat.lcm a (i + 1) else a) a ∧ ∀ i < k, b (i + 1) = true → (i + 1) ∣ (List.range k).foldl (fun a i => if b (i + 1) = true then Nat.lcm a (i + 1) else a) a := by
    intro k
    induction k with
    | zero => intro a; exact ⟨Nat.dvd_refl _, fun i hi => absurd hi (Nat.not_lt_zero i)⟩
    | succ k ih =>
      intro a
      rw [List.range_succ, List.foldl_append, List.foldl_cons, List.foldl_nil]
      obtain ⟨q1, q2⟩ := ih a
      by_cases hb : b (k + 1) = true
      · rw [if_pos hb]
        refine ⟨Nat.dvd_trans q1 (Nat.dvd_lcm_left _ _), fun i hi hbi => ?_⟩
        by_cases e : i = k
        · subst e; exact Nat.dvd_lcm_right _ _
        · exact Nat.dvd_trans (q2 i (by omega) hbi) (Nat.dvd_lcm_left _ _)
      · rw [if_neg hb]
        refine ⟨q1, fun i hi hbi => ?_⟩
        by_cases e : i = k
        · subst e; exact absurd hbi hb
        · exact q2 i (by omega) hbi
  have := (go 10 1).2 (l - 1) (by omega) (by rw [show l - 1 + 1 = l by omega]; exact hb)
  rwa [show l - 1 + 1 = l by omega] at this
theorem sml_cons0 : ∀ x : Fin 10, ∀ b1 b2 b3 b4 b5 b6 b7 b8 b9 b10 : Bool, sml 10 (fun l => l == x.val + 1 || bs10 b1 b2 b3 b4 b5 b6 b7 b8 b9 b10 l) ≤ x.val + 1 + sml 10 (bs10 b1 b2 b3 b4 b5 b6 b7 b8 b9 b10) := by decide +kernel
theorem sml_cons (b : Nat → Bool) (x : Nat) (h1 : 1 ≤ x) (h2 : x ≤ 10) : sml 10 (fun l => l == x || b l) ≤ x + sml 10 b := by
  obtain ⟨y, rfl⟩ : ∃ y, x = y + 1 := ⟨x - 1, by omega⟩
  exact sml_cons0 ⟨y, by omega⟩ (b 1) (b 2) (b 3) (b 4) (b 5) (b 6) (b 7) (b 8) (b 9) (b 10)
theorem landau {ls : List Nat} (h : ∀ l ∈ ls, 1 ≤ l ∧ l ≤ 10) (hs : ls.sum ≤ 10) : lcmL ls ≤ 30 := by
  have q : ∀ ls : List Nat, (∀ l ∈ ls, 1 ≤ l ∧ l ≤ 10) → sml 10 (fun l => ls.contains l) ≤ ls.sum := by
    intro ls
    induction ls with
    | nil => intro _; decide
    | cons x xs ih =>
      intro h
      have hx := h x (List.mem_cons_self ..)
      have := sml_cons (fun l => xs.contains l) x hx.1 hx.2
      have e : (fun l => (x :: xs).contains l) = fun l => l == x || xs.contains l := by funext l; rw [List.contains_cons]
      rw [e, List.sum_cons]
      have := ih fun l hl => h l (List.mem_cons_of_mem _ hl)
      omega
  have m := landau1 (fun l => ls.contains l) (Nat.le_trans (q ls h) hs)
  have d : lcmL ls ∣ mxl 10 (fun l => ls.contains l) := lcmL_dvd.mpr fun l hl => mxl_dvd _ (h l hl).1 (h l hl).2 (List.contains_iff_mem.mpr hl)
  exact Nat.le_trans (Nat.le_of_dvd m.1 d) m.2
/-- rings hold no place twice -/
theorem rngs_flat {n : Int} {xs : List Int} (P : Pths n xs) : (rngs xs n).flatten.Nodup ∧ ∀ x ∈ (rngs xs n).flatten, 0 ≤ x ∧ x < n := by
  have inr : ∀ x ∈ (rngs xs n).flatten, ∃ m, 0 ≤ m ∧ m < n ∧ Fst xs m ∧ x ∈ pth xs m := fun x hx => by
    obtain ⟨r, hr, hx⟩ := List.mem_flatten.mp hx
    unfold rngs at hr
    obtain ⟨m, hm, rfl⟩ := List.mem_map.mp hr
    obtain ⟨h1, h2⟩ := fsts_mem.mp hm
    have h3 := rng_mem.mp h1
    exact ⟨m, h3.1, h3.2, h2, hx⟩
  refine ⟨?_, fun x hx => by obtain ⟨m, m0, m1, _, q⟩ := inr x hx; exact P.rg m m0 m1 x q⟩
  unfold rngs
  have hs : (fsts xs (rng n)).Pairwise (· < ·) := by unfold fsts; exact (rng_sorted n).filter _
  have hm : ∀ m ∈ fsts xs (rng n), 0 ≤ m ∧ m < n ∧ Fst xs m := fun m hm => by
    obtain ⟨h1, h2⟩ := fsts_mem.mp hm
    have h3 := rng_mem.mp h1
    exact ⟨h3.1, h3.2, h2⟩
  generalize fsts xs (rng n) = l at hs hm
  induction l with
  | nil => simp
  | cons a l ih =>
    rw [List.map_cons, List.flatten_cons, List.nodup_append]
    obtain ⟨a0, a1, fa⟩ := hm a (List.mem_cons_self ..)
    obtain ⟨hs1, hs2⟩ := List.pairwise_cons.mp hs
    refine ⟨(P.is a a0 a1).nd, ih hs2 fun m h => hm m (List.mem_cons_of_mem _ h), fun x hx y hy e => ?_⟩
    subst e
    obtain ⟨r, hr, hy⟩ := List.mem_flatten.mp hy
    obtain ⟨b, hb, rfl⟩ := List.mem_map.mp hr
    obtain ⟨b0, b1, fb⟩ := hm b (List.mem_cons_of_mem _ hb)
    have lt := hs1 b hb
    have s1 := P.sym a0 a1 fa.1 hx
    have s2 := P.sym b0 b1 fb.1 hy
    have := fb.2 a (P.trans b0 b1 fb.1 hy s1.2)
    omega
theorem lens_sum {n : Int} {xs : List Int} (P : Pths n xs) : (lens xs n).sum ≤ n.toNat := by
  have q := rngs_flat P
  have := nodup_len q.1 q.2
  rw [List.length_flatten] at this
  exact this
theorem per_le {n : Int} {xs : List Int} (P : Pths n xs) : 1 ≤ lcmL (lens xs n) ∧ lcmL (lens xs n) ≤ 30 :=
  ⟨(lcmL_le (lens_ok P).2).1, landau (lens_ok P).2 (by have := lens_sum P; have := P.ch.hi; omega)⟩
end LW

namespace LW
open PySem L2 MM
/-! texts of charts -/
def dgt (c : Nat) : Bool := decide (48 ≤ c ∧ c < 58)
def lead (cs : List Nat) : Nat := (cs.takeWhile dgt).length
def chartT (cs : List Nat) : Bool := decide (1 ≤ cs.length ∧ cs.length ≤ 10) && cs.all fun c => decide (48 ≤ c ∧ c < 48 + cs.length)
def digs (cs : List Nat) : List Int := cs.map fun c : Nat => (c : Int) - 48
def ans (cs : List Nat) : IV := if chartT cs then .tup [.non, .tup (iz (digs cs))] else .tup [.int ((min (lead cs) 10 : Nat) : Int), .non]
abbrev DG : Str := Str.ofString "0123456789"
theorem tw_len {p : Nat → Bool} : ∀ {cs : List Nat} {i : Nat}, (∀ j (h : j < cs.length), j < i → p cs[j] = true) → i ≤ cs.length → (∀ h : i < cs.length, p cs[i] = false) → (cs.takeWhile p).length = i
  | [], i, _, hi, _ => by simp at hi; subst hi; rfl
  | c :: cs, 0, _, _, no => by
    have := no (Nat.zero_lt_succ _)
    rw [List.takeWhile_cons_of_neg (by simpa using this)]
    rfl
  | c :: cs, i + 1, ok, hi, no => by
    have h0 := ok 0 (by simp) (by omega)
    rw [List.takeWhile_cons_of_pos (by simpa using h0), List.length_cons, tw_len (i := i) (fun j hj hji => by have := ok (j + 1) (by simpa using hj) (by omega); simpa using this) (by simpa using hi) fun h => by have := no (by simpa using h); simpa using this]
theorem tw_le {p : Nat → Bool} : ∀ {cs : List Nat} {i : Nat}, (∀ j (h : j < cs.length), j < i → p cs[j] = true) → i ≤ cs.length → i ≤ (cs.takeWhile p).length
  | [], i, _, hi => by simpa using hi
  | c :: cs, 0, _, _ => Nat.zero_le _
  | c :: cs, i + 1, ok, hi => by
    have h0 := ok 0 (by simp) (by omega)
    rw [List.takeWhile_cons_of_pos (by simpa using h0), List.length_cons]
    have := tw_le (i := i) (p := p) (cs := cs) (fun j hj hji => by have := ok (j + 1) (by simpa using hj) (by omega); simpa using this) (by simpa using hi)
    omega
theorem tw_at {p : Nat → Bool} : ∀ {cs : List Nat} {j : Nat} (h : j < cs.length), j < (cs.takeWhile p).length → p cs[j] = true
  | c :: cs, 0, _, h2 => by
    by_cases hc : p c = true
    · exact hc
    · rw [List.takeWhile_cons_of_neg hc] at h2
      simp at h2
  | c :: cs, j + 1, h, h2 => by
    by_cases hc : p c = true
    · rw [List.takeWhile_cons_of_pos hc] at h2
      have := tw_at (p := p) (cs := cs) (j := j) (by simpa using h) (by simpa using h2)
      simpa using this
    · rw [List.takeWhile_cons_of_neg hc] at h2
      simp at h2
theorem tw_mono {p q : Nat → Bool} (h : ∀ c, p c = true → q c = true) (cs : List Nat) : (cs.takeWhile p).length ≤ (cs.takeWhile q).length :=
  tw_le (fun j hj hji => h _ (tw_at hj hji)) ((List.takeWhile_sublist p).length_le)
theorem one_in (c : Nat) (h : IH) : cIn (.str ⟨#[c]⟩) (.str DG) h = .ok (.bl (dgt c)) h := by
  show R.ok (IV.bl (!(Builtin.Str.occurrences DG ⟨#[c]⟩ 0 DG.length 1).isEmpty)) h = _
  rw [PySem.StrLaws.found_one]
  congr 2
  rw [Bool.eq_iff_iff, decide_eq_true_eq]
  have e : DG.cps.toList = [48, 49, 50, 51, 52, 53, 54, 55, 56, 57] := by decide +kernel
  rw [e]
  unfold dgt
  rw [decide_eq_true_eq]
  simp only [List.mem_cons, List.not_mem_nil, or_false]
  omega
theorem one_nin (c : Nat) (h : IH) : cNin (.str ⟨#[c]⟩) (.str DG) h = .ok (.bl (!dgt c)) h := by
  have := one_in c h
  unfold cIn inItems items at this
  unfold cNin inItems items
  dsimp only at this ⊢
  injection this with this
  injection this with this
  rw [this]
theorem dg_occ : ∀ k : Fin 10, Builtin.Str.occurrences DG ⟨#[48 + k.val]⟩ 0 DG.length 1 = [k.val] := by decide +kernel
theorem dg_index {c : Nat} (hc : dgt c = true) (h : IH) : mSIndex (.str DG) [.str ⟨#[c]⟩] h = .ok (.int ((c : Int) - 48)) h := by
  have := of_decide_eq_true hc
  obtain ⟨k, rfl⟩ : ∃ k : Fin 10, c = 48 + k.val := ⟨⟨c - 48, by omega⟩, by show c = 48 + (c - 48); omega⟩
  unfold mSIndex
  dsimp only
  rw [dg_occ k]
  show R.ok (IV.int (k.val : Int)) h = _
  congr 2
  omega
theorem max_dig {cs : List Nat} (h1 : 1 ≤ cs.length) (ok : ∀ c ∈ cs, dgt c = true) : ∃ m, maxL (digs cs) = some m ∧ ((cs.length : Int) ≤ m ↔ ¬ ∀ c ∈ cs, c < 48 + cs.length) := by
  obtain ⟨m, em, -⟩ := maxL_get (L := digs cs) (by unfold digs; rw [List.length_map]; omega)
  obtain ⟨m1, m2⟩ := maxL_le em
  refine ⟨m, em, ?_⟩
  obtain ⟨c, hc, rfl⟩ := List.mem_map.mp m1
  have dc := of_decide_eq_true (ok c hc)
  constructor
  · intro h q
    have := q c hc
    omega
  · intro q
    refine Classical.byContradiction fun h => q fun d hd => ?_
    have := m2 _ (List.mem_map.mpr ⟨d, hd, rfl⟩)
    have dd := of_decide_eq_true (ok d hd)
    omega
theorem chartT_iff {cs : List Nat} : chartT cs = true ↔ (1 ≤ cs.length ∧ cs.length ≤ 10) ∧ ∀ c ∈ cs, dgt c = true ∧ c < 48 + cs.length := by
  unfold chartT
  rw [Bool.and_eq_true, decide_eq_true_eq, List.all_eq_true]
  refine and_congr_right fun h => ?_
  constructor
  · intro q c hc
    have := of_decide_eq_true (q c hc)
    exact ⟨decide_eq_true (by omega), this.2⟩
  · intro q c hc
    have h1 := of_decide_eq_true (q c hc).1
    have h2 := (q c hc).2
    exact decide_eq_true (by omega)
theorem digs_map (cs : List Nat) : (cs.map fun c : Nat => IV.int ((c : Int) - 48)) = iz (digs cs) := by unfold digs; rw [iz, List.map_map]; rfl
section
variable {s : Str} {cs : List Nat} (hs : s.cps.toList = cs)
include hs
theorem s_len : s.length = cs.length := by rw [← hs, Array.length_toList]; rfl
theorem sg : sgns s = cs.map fun c => .str ⟨#[c]⟩ := by unfold sgns; rw [hs]
theorem s_emp : (s == Str.ofString "") = decide (cs = []) := by
  rw [Bool.eq_iff_iff, beq_iff_eq, decide_eq_true_eq]
  constructor
  · intro e
    rw [e] at hs
    exact hs.symm
  · intro e
    subst e
    obtain ⟨a⟩ := s
    have : a = #[] := by
      have h : a.toList = [] := hs
      exact Array.toList_eq_nil_iff.mp h
    rw [this]
    rfl
end
end LW

namespace LW
open PySem L2 MM
theorem enum_len2 : ∀ (i : Nat) (xs : List IV), (enumFrom i xs).length = xs.length
  | _, [] => rfl
  | i, x :: xs => by unfold enumFrom; rw [List.length_cons, List.length_cons, enum_len2]
theorem enum_at2 : ∀ (i : Nat) (xs : List IV) (j : Nat) (h : j < (enumFrom i xs).length), (enumFrom i xs)[j] = .tup [.int ((i + j : Nat) : Int), xs[j]'(by rw [enum_len2] at h; exact h)]
  | i, x :: xs, 0, h => rfl
  | i, x :: xs, j + 1, h => by
    have := enum_at2 (i + 1) xs j (by rw [enum_len2] at h ⊢; simpa using h)
    unfold enumFrom
    rw [List.getElem_cons_succ, this, List.getElem_cons_succ]
    congr 4
    omega
section
variable {s : Str} {cs : List Nat} (hs : s.cps.toList = cs) (hz : cs.length ≤ 100000)
include hs hz
theorem told_body {K : Ks} (raise : ¬ ((∀ c ∈ cs, dgt c = true) ∧ cs.length ≤ 10) → ∀ e h, K.ex ⟨2, some (.int ((min (lead cs) 10 : Nat) : Int))⟩ e h) {b0 : SM} {a1 a2 a3 : Option IV}
    (done : (∀ c ∈ cs, dgt c = true) → cs.length ≤ 10 → ∀ a2 a3 : Option IV, wp (b0 [some (.str s), a1, a2, a3] []) K) :
    wp (sSeq (sFor (iEnumStr (eVar 0)) (gTp 2 (gCons' (gNm 2) (gCons' (gNm 3) (gNil')))) (sIf (tOrM (toB (e2 cNin (eVar 3) (eK (.str "0123456789")))) (toB (e2 cGe (eVar 2) (eK (.int 10))))) (sRaiseV 2 (eVar 2)) (sNil))) b0 [some (.str s), a1, a2, a3] []) K := by
  have it : ∀ h, iEnumStr (eVar 0) [some (.str s), a1, a2, a3] h = .ok (enumFrom 0 (cs.map fun c => .str ⟨#[c]⟩), fun _ => true) h := fun h => by
    rw [← sg hs]
    rfl
  have ll : (enumFrom 0 (cs.map fun c => IV.str ⟨#[c]⟩)).length = cs.length := by rw [enum_len2, List.length_map]
  simp_arith! [it]
  refine wp_forM (fun i e h => (∀ j (hj : j < cs.length), j < i → dgt cs[j] = true) ∧ i ≤ 10 ∧ ∃ a2 a3, e = [some (.str s), a1, a2, a3] ∧ h = []) ⟨fun j _ hj => absurd hj (Nat.not_lt_zero j), Nat.zero_le _, _, _, rfl, rfl⟩ (fun _ _ _ _ _ => rfl) ?_ ?_
  · rintro i hi e h ⟨ok, i10, a2, a3, rfl, rfl⟩
    have hi' : i < cs.length := by rw [ll] at hi; exact hi
    have ei : (enumFrom 0 (cs.map fun c => IV.str ⟨#[c]⟩))[i] = .tup [.int ((i : Nat) : Int), .str ⟨#[cs[i]]⟩] := by
      rw [enum_at2, List.getElem_map, Nat.zero_add]
    rw [ei]
    refine ⟨_, _, rfl, ?_⟩
    have nin := fun h => one_nin cs[i] h
    cases hd : dgt cs[i] with
    | false =>
      rw [hd] at nin
      have nin' : ∀ h, cNin (.str ⟨#[cs[i]]⟩) (.str (Str.ofString "0123456789")) h = .ok (.bl true) h := nin
      have l : lead cs = i := tw_len ok (by omega) fun _ => hd
      have r := raise fun q => by
        have := q.1 _ (List.getElem_mem hi')
        rw [hd] at this
        cases this
      rw [l, Nat.min_eq_left i10] at r
      iterate 4 (try simp_arith! [nin'])
      exact r _ _
    | true =>
      rw [hd] at nin
      have nin' : ∀ h, cNin (.str ⟨#[cs[i]]⟩) (.str (Str.ofString "0123456789")) h = .ok (.bl false) h := nin
      have ok2 : ∀ j (hj : j < cs.length), j < i + 1 → dgt cs[j] = true := fun j hj hji => by
        by_cases e : j < i
        · exact ok j hj e
        · have : j = i := by omega
          subst this
          exact hd
      iterate 4 (try simp_arith! [nin'])
      refine ⟨fun h10 => ?_, fun h10 => ?_⟩
      · have e10 : i = 10 := by omega
        subst e10
        have l := tw_le (p := dgt) (cs := cs) (i := 11) ok2 (by omega)
        have r := raise fun q => by have := q.2; omega
        rw [Nat.min_eq_right (show 10 ≤ lead cs by unfold lead; omega)] at r
        exact r _ _
      · first | exact ⟨ok2, by omega, _, _, rfl, rfl⟩ | exact ⟨ok2, by omega, _, _, rfl⟩
  · rintro e h ⟨ok, i10, a2, a3, rfl, rfl⟩
    rw [ll] at ok i10
    exact done (fun c hc => by
      obtain ⟨j, hj, rfl⟩ := List.getElem_of_mem hc
      exact ok j hj hj) i10 _ _
theorem told_head {K : Ks} (ne : (s == Str.ofString "") = false) (R : SM) (w : wp (R [some (.str s), none, none, none] []) K) : wp (sSeq (sIf (tOrM (tNotM (toB (e1 (uIsi "str") (eVar 0)))) (toB (e2 cEq (eVar 0) (eK (.str ""))))) (sRaiseV 2 (eK (.int 0))) (sNil)) R [some (.str s), none, none, none] []) K := by
  iterate 3 (try simp_arith! [ne])
  exact w
theorem told_it (w1 w2 w3 : Option IV) (h : IH) : iStrM (eVar 0) [some (.str s), w1, w2, w3] h = .ok (cs.map fun c => .str ⟨#[c]⟩, fun _ => true) h := by
  rw [← sg hs]
  rfl
theorem f_chart_toldY (hT : chartT cs = true) (h : IH) : F_chart_told [.str s] h = .ok (.tup (iz (digs cs))) h := by
  obtain ⟨⟨l1, l2⟩, q⟩ := chartT_iff.mp hT
  refine spec E_chart_told rfl rfl ?_ h
  show wp (b_chart_told [some (.str s), none, none, none] []) _
  have ne : (s == Str.ofString "") = false := by rw [s_emp hs]; exact decide_eq_false fun e => by subst e; simp at l1
  obtain ⟨m, em, hm⟩ := max_dig l1 fun c hc => (q c hc).1
  have mlt : ¬ (cs.length : Int) ≤ m := fun h => hm.mp h fun c hc => (q c hc).2
  have sl := s_len hs
  unfold b_chart_told
  refine told_head hs hz ne _ (told_body hs hz (fun no => absurd ⟨fun c hc => (q c hc).1, l2⟩ no) fun ok l10 a2 a3 => ?_)
  · iterate 2 (try simp_arith! [told_it hs hz, List.length_map])
    refine ⟨by omega, lc_map' (fun c : Nat => .int ((c : Int) - 48)) rfl (fun c hc => ⟨_, rfl, ?_⟩) ?_⟩
    · have ix : ∀ h, mSIndex (.str (Str.ofString "0123456789")) [.str ⟨#[c]⟩] h = .ok (.int ((c : Int) - 48)) h := fun h => dg_index (ok c hc) h
      exact wr_of (show eMthS mSIndex _ _ _ _ = _ from ix []) ⟨rfl, rfl⟩
    · rw [digs_map]
      have ld : (digs cs).length = cs.length := by unfold digs; rw [List.length_map]
      iterate 4 (try simp_arith! [intsOf_ints, em, iz_len, ld, mlt])
theorem f_chart_toldN (hT : chartT cs = false) (h : IH) : F_chart_told [.str s] h = .exc ⟨2, some (.int ((min (lead cs) 10 : Nat) : Int))⟩ h := by
  refine specXV E_chart_told rfl rfl rfl ?_ h
  show wp (b_chart_told [some (.str s), none, none, none] []) _
  have sl := s_len hs
  unfold b_chart_told
  by_cases e0 : cs = []
  · have ne : (s == Str.ofString "") = true := by rw [s_emp hs]; exact decide_eq_true e0
    have l0 : min (lead cs) 10 = 0 := by subst e0; rfl
    rw [l0]
    iterate 3 (try simp_arith! [ne])
    rfl
  · have ne : (s == Str.ofString "") = false := by rw [s_emp hs]; exact decide_eq_false e0
    refine told_head hs hz ne _ (told_body hs hz (fun _ e h => rfl) fun ok l10 a2 a3 => ?_)
    have l1 : 1 ≤ cs.length := by
      have := List.length_pos_iff.mpr e0
      omega
    obtain ⟨m, em, hm⟩ := max_dig l1 ok
    have mge : (cs.length : Int) ≤ m := hm.mpr fun q => by
      have := chartT_iff.mpr ⟨⟨l1, l10⟩, fun c hc => ⟨ok c hc, q c hc⟩⟩
      rw [hT] at this
      cases this
    have ld : (digs cs).length = cs.length := by unfold digs; rw [List.length_map]
    have le : lead cs = cs.length := tw_len (fun j hj _ => ok _ (List.getElem_mem hj)) (Nat.le_refl _) fun h => absurd h (Nat.lt_irrefl _)
    have lm : min (lead cs) 10 = cs.length := by rw [le]; exact Nat.min_eq_left l10
    rw [lm]
    have szl : s.length ≤ sizeLine := by rw [sl]; exact Nat.le_trans l10 (by decide)
    iterate 2 (try simp_arith! [told_it hs hz, List.length_map])
    refine ⟨by omega, lc_map' (fun c : Nat => .int ((c : Int) - 48)) rfl (fun c hc => ⟨_, rfl, ?_⟩) ?_⟩
    · have ix : ∀ h, mSIndex (.str (Str.ofString "0123456789")) [.str ⟨#[c]⟩] h = .ok (.int ((c : Int) - 48)) h := fun h => dg_index (ok c hc) h
      exact wr_of (show eMthS mSIndex _ _ _ _ = _ from ix []) ⟨rfl, rfl⟩
    · rw [digs_map]
      iterate 4 (try simp_arith! [intsOf_ints, em, iz_len, ld, mge, sl, szl])
      omega
end
theorem f_chart_toldO {v : IV} (hv : below 0 v = true) (ns : ∀ s, v ≠ .str s) (h : IH) : F_chart_told [v] h = .exc ⟨2, some (.int 0)⟩ h := by
  refine specXV E_chart_told rfl (by rw [b_cons, hv]; rfl) rfl ?_ h
  show wp (b_chart_told [some v, none, none, none] []) _
  unfold b_chart_told
  cases v with
  | ref k => simp [below] at hv
  | str s => exact absurd rfl (ns s)
  | _ => iterate 3 (try simp_arith! [])
/-- so far it reads -/
def rc (cs : List Nat) (m : Nat) : Nat := min m (cs.takeWhile fun c => decide (48 ≤ c ∧ c < 48 + m)).length
theorem rc_mono (cs : List Nat) (m : Nat) : rc cs m ≤ rc cs (m + 1) := by
  have := tw_mono (p := fun c => decide (48 ≤ c ∧ c < 48 + m)) (q := fun c => decide (48 ≤ c ∧ c < 48 + (m + 1))) (fun c h => by
    have := of_decide_eq_true h
    exact decide_eq_true (by omega)) cs
  unfold rc
  omega
theorem rc_10 (cs : List Nat) : rc cs 10 = min (lead cs) 10 := Nat.min_comm ..
theorem cut_dg {m : Nat} (h1 : 1 ≤ m) (h2 : m ≤ 10) (c : Nat) (h : IH) : cIn (.str ⟨#[c]⟩) (.str (cutS DG none (some (m : Int)))) h = .ok (.bl (decide (48 ≤ c ∧ c < 48 + m))) h := by
  show R.ok (IV.bl (!(Builtin.Str.occurrences (cutS DG none (some (m : Int))) ⟨#[c]⟩ 0 (cutS DG none (some (m : Int))).length 1).isEmpty)) h = _
  rw [PySem.StrLaws.found_one]
  congr 2
  have e : (cutS DG none (some (m : Int))).cps.toList = (List.range m).map (48 + ·) := by
    have : m = 1 ∨ m = 2 ∨ m = 3 ∨ m = 4 ∨ m = 5 ∨ m = 6 ∨ m = 7 ∨ m = 8 ∨ m = 9 ∨ m = 10 := by omega
    rcases this with rfl | rfl | rfl | rfl | rfl | rfl | rfl | rfl | rfl | rfl <;> decide +kernel
  rw [e, Bool.eq_iff_iff, decide_eq_true_eq, decide_eq_true_eq, List.mem_map]
  constructor
  · rintro ⟨k, hk, rfl⟩
    have := List.mem_range.mp hk
    omega
  · intro q
    exact ⟨c - 48, List.mem_range.mpr (by omega), by omega⟩
end LW

namespace LW
open PySem L2 MM
theorem str_ext {a b : Str} (h : a.cps.toList = b.cps.toList) : a = b := by
  obtain ⟨x⟩ := a
  obtain ⟨y⟩ := b
  have : x = y := Array.toList_inj.mp h
  rw [this]
theorem join0 : ∀ ys : List Str, (Str.join ⟨#[]⟩ ys).cps.toList = (ys.map fun y => y.cps.toList).flatten
  | [] => rfl
  | [x] => by simp [Str.join]
  | x :: y :: r => by
    have ih := join0 (y :: r)
    show ((x.cps ++ #[]) ++ (Str.join ⟨#[]⟩ (y :: r)).cps).toList = _
    rw [Array.toList_append, ih]
    simp
theorem txt_list (xs : List Int) : (txt xs).cps.toList = xs.map fun x => 48 + x.toNat := by
  unfold txt
  show (Builtin.Str.glued (Str.ofString "") (xs.map dig)).cps.toList = _
  rw [PySem.StrLaws.glued_eq_join, show Str.ofString "" = (⟨#[]⟩ : Str) from rfl, join0, List.map_map]
  induction xs with
  | nil => rfl
  | cons x xs ih => rw [List.map_cons, List.flatten_cons, ih]; rfl
def wtx (xs : List Int) : Str := xs.foldl (fun s x => s ++ dig x) (Str.ofString "")
theorem wtx_list : ∀ (xs : List Int) (s : Str), (xs.foldl (fun s x => s ++ dig x) s).cps.toList = s.cps.toList ++ xs.map fun x => 48 + x.toNat
  | [], s => by simp
  | x :: xs, s => by
    rw [List.foldl_cons, wtx_list xs]
    show (s.cps ++ (dig x).cps).toList ++ _ = _
    rw [Array.toList_append, List.append_assoc]
    rfl
theorem wtx_txt (xs : List Int) : wtx xs = txt xs := str_ext (by rw [txt_list]; unfold wtx; rw [wtx_list]; rfl)
section
variable {n : Int} {xs : List Int} (c : Ch n xs)
include c
theorem f_written (h : IH) : F__law_written [.tup (iz xs)] h = .ok (.str (txt xs)) h := by
  have hl := c.len
  have hi := c.hi
  rw [← wtx_txt]
  refine spec E__law_written (by rw [b_cons, below_tup]; rfl) rfl ?_ h
  show wp (b__law_written [some (.tup (iz xs)), none, none] []) _
  unfold b__law_written
  simp_arith! []
  refine wp_forM (fun i e h => ∃ a2, e = [some (.tup (iz xs)), some (.str ((xs.take i).foldl (fun s x => s ++ dig x) (Str.ofString ""))), a2] ∧ h = []) ⟨_, rfl, rfl⟩ (fun _ _ _ _ _ => rfl) ?_ ?_
  · rintro i hi' e h ⟨a2, rfl, rfl⟩
    have hi2 : i < xs.length := by rw [iz_len] at hi'; exact hi'
    rw [show (iz xs)[i] = .int xs[i] from List.getElem_map ..]
    have hm := c.mem _ (List.getElem_mem hi2)
    have tk : xs.take (i + 1) = xs.take i ++ [xs[i]] := by rw [List.take_succ, List.getElem?_eq_getElem hi2]; rfl
    rw [tk, List.foldl_append]
    have ll : ((xs.take i).foldl (fun s x => s ++ dig x) (Str.ofString "")).length ≤ 10 := by
      show ((xs.take i).foldl (fun s x => s ++ dig x) (Str.ofString "")).cps.size ≤ 10
      rw [← Array.length_toList, wtx_list, List.length_append, List.length_map, List.length_take]
      show 0 + _ ≤ 10
      omega
    generalize (xs.take i).foldl (fun s x => s ++ dig x) (Str.ofString "") = s at ll ⊢
    generalize xs[i] = x at hm ⊢
    have ix : ∀ h, bIxS (.str (Str.ofString "0123456789")) (.int x) h = .ok (.str (dig x)) h := fun h => by
      have : x = 0 ∨ x = 1 ∨ x = 2 ∨ x = 3 ∨ x = 4 ∨ x = 5 ∨ x = 6 ∨ x = 7 ∨ x = 8 ∨ x = 9 := by omega
      rcases this with rfl | rfl | rfl | rfl | rfl | rfl | rfl | rfl | rfl | rfl <;> rfl
    have l1 : (dig x).length = 1 := rfl
    refine ⟨_, _, rfl, ?_⟩
    iterate 3 (try simp_arith! [ix, l1])
    exact ⟨by omega, _, rfl⟩
  · rintro e h ⟨a2, rfl, rfl⟩
    rw [iz_len, List.take_length]
    iterate 2 (try simp_arith! [])
    first | rfl | exact Rt.val rfl
theorem txt_chart : chartT (txt xs).cps.toList = true ∧ digs (txt xs).cps.toList = xs := by
  have hl := c.len
  have lo := c.lo
  have hi := c.hi
  rw [txt_list]
  refine ⟨chartT_iff.mpr ⟨by rw [List.length_map]; omega, fun d hd => ?_⟩, ?_⟩
  · obtain ⟨x, hx, rfl⟩ := List.mem_map.mp hd
    have := c.mem x hx
    rw [List.length_map]
    exact ⟨decide_eq_true (by omega), by omega⟩
  · unfold digs
    rw [List.map_map]
    refine (List.map_congr_left fun x hx => ?_).trans (List.map_id _)
    have := c.mem x hx
    show ((48 + x.toNat : Nat) : Int) - 48 = x
    omega
end
theorem hd_told (v : IV) (w0 w1 w2 : Option IV) (h : IH) : hdlA xtb ⟨2, some v⟩ [w0, w1, w2] h [(2, some 2, fun x => sAsg (eTup (aCons (eXf 2 x) (aCons (eK .non) (aNil)))) (gNm 1)), (0, none, fun _ => sAsg (eK (.str "other")) (gNm 1))] = .nx [w0, some (.tup [v, .non]), none] h := rfl
theorem f_ltold {s : Str} {cs : List Nat} (hs : s.cps.toList = cs) (hz : cs.length ≤ 100000) (h : IH) : F__law_told [.str s] h = .ok (ans cs) h := by
  refine spec E__law_told rfl rfl ?_ h
  show wp (b__law_told [some (.str s), none, none] []) _
  unfold b__law_told
  cases hT : chartT cs with
  | true =>
    have e : ans cs = .tup [.non, .tup (iz (digs cs))] := by unfold ans; rw [hT]; rfl
    rw [e]
    simp_arith! []
    refine wp_tryA ?_
    iterate 3 (try simp_arith! [f_chart_toldY hs hz hT, pick1])
    exact Rt.val (by rw [b_tup, b_cons, b_cons, b_tup, below_iz]; rfl)
  | false =>
    have e : ans cs = .tup [.int ((min (lead cs) 10 : Nat) : Int), .non] := by unfold ans; rw [hT]; rfl
    rw [e]
    simp_arith! []
    refine wp_tryA ?_
    iterate 3 (try simp_arith! [f_chart_toldN hs hz hT, pick1, hd_told])
    refine ⟨?_⟩
    show wp (sRet (eVar 1) _ _) _
    iterate 2 (try simp_arith! [])
    try exact Rt.val rfl
theorem f_ltoldO {v : IV} (hv : below 0 v = true) (ns : ∀ s, v ≠ .str s) (h : IH) : F__law_told [v] h = .ok (.tup [.int 0, .non]) h := by
  refine spec E__law_told (by rw [b_cons, hv]; rfl) rfl ?_ h
  show wp (b__law_told [some v, none, none] []) _
  unfold b__law_told
  simp_arith! []
  refine wp_tryA ?_
  iterate 3 (try simp_arith! [f_chart_toldO hv ns, pick1, hd_told])
  refine ⟨?_⟩
  show wp (sRet (eVar 1) _ _) _
  iterate 2 (try simp_arith! [])
  try exact Rt.val rfl
theorem f_refused {v : IV} (hv : below 0 v = true) (cv : chartB v = false) (h : IH) : F__law_refused [v] h = .ok (.str "chart") h := by
  refine spec E__law_refused (by rw [b_cons, hv]; rfl) rfl ?_ h
  show wp (b__law_refused [some v, none] []) _
  unfold b__law_refused
  simp_arith! []
  refine wp_try ?_
  iterate 3 (try simp_arith! [f_chart_textX hv cv, hdl1, wp_nox])
end LW

namespace LW
open PySem L2 MM
theorem rng2_pre2 {a b k : Int} {l r : List Int} (h : rng2 a b = l ++ k :: r) : k = a + (l.length : Int) ∧ (l.length : Int) < b - a := by
  have e := congrArg (fun L : List Int => L[l.length]?) h
  have hlen := congrArg List.length h
  rw [rng2_len, List.length_append, List.length_cons] at hlen
  rw [List.getElem?_append_right (Nat.le_refl _), Nat.sub_self, List.getElem?_cons_zero] at e
  unfold rng2 at e
  rw [List.getElem?_map, List.getElem?_range (by omega)] at e
  exact ⟨(Option.some.inj e).symm, by omega⟩
theorem f_read {s : Str} {cs : List Nat} (hs : s.cps.toList = cs) (hz : cs.length ≤ 100000) (h : IH) : F__law_read [.str s] h = .ok (ans cs) h := by
  have sl := s_len hs
  refine spec E__law_read rfl rfl ?_ h
  show wp (b__law_read [some (.str s), none, none, none, none] []) _
  unfold b__law_read
  have it : ∀ (w1 w2 w3 w4 : Option IV) h, iStrM (eVar 0) [some (.str s), w1, w2, w3, w4] h = .ok (cs.map fun c => .str ⟨#[c]⟩, fun _ => true) h := fun _ _ _ _ h => by
    rw [← sg hs]
    rfl
  have rc0 : rc cs 0 = 0 := Nat.zero_min _
  have szl : s.length ≤ sizeLine := by rw [sl]; exact Nat.le_trans hz (by decide)
  iterate 2 (try simp_arith! [lRange_rng2])
  refine ⟨rgOk2 (by decide) (by decide) (by decide) (by decide), ?_⟩
  refine wp_forL (fun l e h => ∃ a2 a3 a4, e = [some (.str s), some (.int ((rc cs l.length : Nat) : Int)), a2, a3, a4] ∧ h = [] ∧ (chartT cs = true → l.length < cs.length)) ⟨_, _, _, by rw [List.length_nil, rc0]; rfl, rfl, fun q => (chartT_iff.mp q).1.1⟩ (fun _ _ _ _ => rfl) ?_ ?_
  · rintro l x r e h hx ⟨a2, a3, a4, rfl, rfl, nt⟩
    obtain ⟨ex, lx⟩ := rng2_pre2 hx
    obtain ⟨M, hM⟩ : ∃ M : Nat, M = l.length + 1 := ⟨_, rfl⟩
    have exM : x = (M : Int) := by omega
    subst exM
    have M1 : 1 ≤ M := by omega
    have M2 : M ≤ 10 := by omega
    have mono := rc_mono cs l.length
    rw [← hM] at mono
    have ll : (l ++ [(M : Int)]).length = M := by rw [List.length_append, List.length_singleton, hM]
    rw [ll]
    have rcM : rc cs M ≤ M := Nat.min_le_left ..
    refine ⟨_, _, rfl, ?_⟩
    iterate 2 (try simp_arith! [])
    refine wp_while (fun m e h => ∃ (r : Nat) (b4 : Option IV), e = [some (.str s), some (.int ((rc cs l.length : Nat) : Int)), some (.int (M : Int)), some (.int (r : Int)), b4] ∧ h = [] ∧ m = M - r ∧ r ≤ M ∧ r ≤ cs.length ∧ ∀ j (hj : j < cs.length), j < r → decide (48 ≤ cs[j] ∧ cs[j] < 48 + M) = true) M (by omega) ⟨0, _, rfl, rfl, rfl, Nat.zero_le _, Nat.zero_le _, fun j _ hj => absurd hj (Nat.not_lt_zero j)⟩ ?_
    rintro m e h ⟨r, b4, rfl, rfl, rfl, r1, r2, ok⟩
    have stop : (∀ h : r < cs.length, r < M → decide (48 ≤ cs[r] ∧ cs[r] < 48 + M) = false) → rc cs M = r := fun q => by
      unfold rc
      by_cases e : r = M
      · subst e
        exact Nat.min_eq_left (tw_le ok r2)
      · rw [tw_len ok r2 fun h => q h (by omega)]
        exact Nat.min_eq_right r1
    have szd : (Str.ofString "0123456789").length ≤ sizeLine := by decide
    have at_ : ∀ hL : r < cs.length, ∀ h, bIxS (.str s) (.int (r : Int)) h = .ok (.str ⟨#[cs[r]]⟩) h := fun hL h => by
      have e : atI s.cps.toList (r : Int) = some cs[r] := by
        rw [hs]
        unfold atI
        rw [ixN_nat hL]
        exact List.getElem?_eq_getElem hL
      unfold bIxS
      dsimp only
      rw [if_pos szl, e]
    by_cases go : ∃ hL : r < cs.length, r < M ∧ decide (48 ≤ cs[r] ∧ cs[r] < 48 + M) = true
    · obtain ⟨hL, hM', hd⟩ := go
      have cd := fun h => cut_dg M1 M2 cs[r] h
      rw [hd] at cd
      have cd' : ∀ h, cIn (.str ⟨#[cs[r]]⟩) (.str (cutS (Str.ofString "0123456789") none (some (M : Int)))) h = .ok (.bl true) h := cd
      have ok2 : ∀ j (hj : j < cs.length), j < r + 1 → decide (48 ≤ cs[j] ∧ cs[j] < 48 + M) = true := fun j hj hji => by
        by_cases e : j < r
        · exact ok j hj e
        · have : j = r := by omega
          subst this
          exact hd
      iterate 4 (try simp_arith! [sl, szl, at_ hL, cd', szd])
      refine ⟨by omega, fun _ => ⟨fun _ => ⟨by decide, by omega, ?_⟩, fun h => absurd (by omega) h⟩, fun h => absurd (by omega) h⟩
      iterate 2 (try simp_arith! [])
      exact ⟨M - (r + 1), by omega, r + 1, _, rfl, rfl, by omega, by omega, fun j hj hji => of_decide_eq_true (ok2 j hj hji)⟩
    · have ev : tAndM (toB (e2 cLt (eVar 3) (eLenV (eVar 0)))) (tAndM (toB (e2 cLt (eVar 3) (eVar 2))) (toB (e2 cIn (eIx (eVar 0) (eVar 3)) (eCut (eK (.str (Str.ofString "0123456789"))) oN (oS (eVar 2)))))) [some (.str s), some (.int ((rc cs l.length : Nat) : Int)), some (.int (M : Int)), some (.int (r : Int)), b4] [] = .ok false [] := by
        refine wr_eq ?_
        by_cases hL : r < cs.length
        · have cd := fun h => cut_dg M1 M2 cs[r] h
          by_cases hM' : r < M
          · have hd : decide (48 ≤ cs[r] ∧ cs[r] < 48 + M) = false := Bool.eq_false_iff.mpr fun h => go ⟨hL, hM', h⟩
            rw [hd] at cd
            have cd' : ∀ h, cIn (.str ⟨#[cs[r]]⟩) (.str (cutS (Str.ofString "0123456789") none (some (M : Int)))) h = .ok (.bl false) h := cd
            iterate 4 (try simp_arith! [sl, szl, at_ hL, cd', szd])
            exact ⟨by omega, fun _ => ⟨fun _ => by decide, fun _ => trivial⟩, fun _ => trivial⟩
          · iterate 4 (try simp_arith! [sl, szl])
            exact ⟨by omega, fun _ => ⟨fun h => absurd h (by omega), fun _ => trivial⟩, fun _ => trivial⟩
        · iterate 4 (try simp_arith! [sl, szl])
          exact ⟨by omega, fun h => absurd h (by omega), fun _ => trivial⟩
      have rM := stop fun hL hM' => Bool.eq_false_iff.mpr fun h => go ⟨hL, hM', h⟩
      refine wr_of ev ⟨fun h => absurd h (by decide), fun _ => ?_⟩
      rw [rM] at mono rcM
      have mx : (if (r : Int) > ((rc cs l.length : Nat) : Int) then (r : Int) else ((rc cs l.length : Nat) : Int)) = (r : Int) := by split <;> omega
      iterate 4 (try simp_arith! [sl, szl, mx, it, List.length_map])
      have big : chartT cs = true → r = M ∨ M < cs.length := fun hT => by
        obtain ⟨⟨q1, q2⟩, q⟩ := chartT_iff.mp hT
        have n1 := nt hT
        by_cases e : M = cs.length
        · left
          rw [← rM]
          refine Nat.min_eq_left (tw_le (fun j hj _ => ?_) (by omega))
          have := q _ (List.getElem_mem hj)
          have := of_decide_eq_true this.1
          exact decide_eq_true (by omega)
        · right
          omega
      refine ⟨fun h1 => ⟨by omega, fun h2 => ⟨by omega, ?_⟩, fun h2 => ⟨_, _, _, by rw [rM], fun hT => ?_⟩⟩, fun h1 => ⟨_, _, _, by rw [rM], fun hT => ?_⟩⟩
      · have okd : ∀ c ∈ cs, dgt c = true ∧ c < 48 + cs.length := fun c hc => by
          obtain ⟨j, hj, rfl⟩ := List.getElem_of_mem hc
          have := of_decide_eq_true (ok j hj (by omega))
          exact ⟨decide_eq_true (by omega), by omega⟩
        have hT : chartT cs = true := chartT_iff.mpr ⟨by omega, okd⟩
        have ea : ans cs = .tup [.non, .tup (iz (digs cs))] := by unfold ans; rw [hT]; rfl
        rw [ea]
        refine lc_map' (fun c : Nat => .int ((c : Int) - 48)) rfl (fun c hc => ⟨_, rfl, ?_⟩) ?_
        · have ix : ∀ h, mSIndex (.str (Str.ofString "0123456789")) [.str ⟨#[c]⟩] h = .ok (.int ((c : Int) - 48)) h := fun h => dg_index (okd c hc).1 h
          exact wr_of (show eMthS mSIndex _ _ _ _ = _ from ix []) ⟨rfl, rfl⟩
        · rw [digs_map]
          iterate 3 (try simp_arith! [])
          exact Rt.val (by rw [b_tup, b_cons, b_cons, b_tup, below_iz]; rfl)
      · rcases big hT with h | h
        · have := (chartT_iff.mp hT).1
          have := nt hT
          omega
        · exact h
      · rcases big hT with h | h
        · omega
        · exact h
  · rintro e h ⟨a2, a3, a4, rfl, rfl, nt⟩
    rw [rng2_len] at nt ⊢
    have hT : chartT cs = false := by
      rw [← Bool.not_eq_true]
      intro q
      have := nt q
      have := (chartT_iff.mp q).1.2
      omega
    have e : ans cs = .tup [.int ((rc cs 10 : Nat) : Int), .non] := by unfold ans; rw [hT, rc_10]; rfl
    rw [e]
    iterate 2 (try simp_arith! [])
    try exact Rt.val rfl
end LW

namespace LW
open PySem L2 MM
theorem tl_ans (cs : List Nat) : Tl (ans cs) := by
  unfold ans
  split
  · rename_i hT
    obtain ⟨⟨l1, l2⟩, q⟩ := chartT_iff.mp hT
    have small : ∀ x ∈ digs cs, x.natAbs < 10 ^ 90 := fun x hx => by
      obtain ⟨c, hc, rfl⟩ := List.mem_map.mp hx
      have := of_decide_eq_true (q c hc).1
      exact Nat.lt_of_le_of_lt (show ((c : Int) - 48).natAbs ≤ 10 by omega) (by decide +kernel)
    have ld : (digs cs).length = cs.length := by unfold digs; rw [List.length_map]
    refine (Tw.tup (n := 1) (w := 20) (xs := [.non, .tup (iz (digs cs))]) fun v hv => ?_).tl (by decide) (by show 2 * 21 ≤ 100000; decide)
    simp only [List.mem_cons, List.not_mem_nil, or_false] at hv
    rcases hv with rfl | rfl
    · exact Tw.non.mono (by decide) (by decide)
    · exact (Tw.tup (Tw.ints small)).mono (by decide) (by rw [iz_len, ld]; omega)
  · refine (Tw.tup (n := 0) (w := 0) (xs := [.int ((min (lead cs) 10 : Nat) : Int), .non]) fun v hv => ?_).tl (by decide) (by show 2 * 1 ≤ 100000; decide)
    simp only [List.mem_cons, List.not_mem_nil, or_false] at hv
    rcases hv with rfl | rfl
    · exact Tw.int (Nat.lt_of_le_of_lt (show (((min (lead cs) 10 : Nat) : Int)).natAbs ≤ 10 by omega) (by decide +kernel))
    · exact Tw.non
theorem len_toList (s : Str) : s.length = s.cps.toList.length := by rw [Array.length_toList]; rfl
theorem cat_len (a b : Str) : (a ++ b).length = a.length + b.length := by
  show (a.cps ++ b.cps).size = _
  rw [Array.size_append]
  rfl
theorem sgn_at {d : Int} (d0 : 0 ≤ d) (d1 : d < 21) : ∃ c : Nat, ∀ h, bIxS (.str (Str.ofString "0123456789- a,\n\tA/:;+")) (.int d) h = .ok (.str ⟨#[c]⟩) h := by
  have : d = 0 ∨ d = 1 ∨ d = 2 ∨ d = 3 ∨ d = 4 ∨ d = 5 ∨ d = 6 ∨ d = 7 ∨ d = 8 ∨ d = 9 ∨ d = 10 ∨ d = 11 ∨ d = 12 ∨ d = 13 ∨ d = 14 ∨ d = 15 ∨ d = 16 ∨ d = 17 ∨ d = 18 ∨ d = 19 ∨ d = 20 := by omega
  rcases this with rfl | rfl | rfl | rfl | rfl | rfl | rfl | rfl | rfl | rfl | rfl | rfl | rfl | rfl | rfl | rfl | rfl | rfl | rfl | rfl | rfl <;> exact ⟨_, fun _ => rfl⟩
theorem f_tbent {ys : List IV} (c : Cup ys) {s : Str} (hs : s.length ≤ 12) : ∃ (t : Str) (zs : List IV), (∀ k h, h[k]? = some (.lst ys) → F__law_bent [.ref k, .str s] h = .ok (.str t) (h.set k (.lst zs))) ∧ t.length ≤ 100000 ∧ belows 0 zs = true ∧ Cup zs := by
  have q := specC (ws := [.str s]) (xs := ys) (Q := fun w zs => ∃ t : Str, w = .str t ∧ t.length ≤ 100000 ∧ Cup zs) E__law_bent rfl c.bel rfl ?_
  · obtain ⟨w, zs, q1, -, q3, t, rfl, a, cz⟩ := q
    exact ⟨t, zs, q1, a, q3, cz⟩
  show wp (b__law_bent [some (.ref 0), some (.str s), none, none, none, none] [.lst ys]) _
  unfold b__law_bent
  obtain ⟨d, z1, q1, d0, d1, -, c1⟩ := f_sip c (n := 2) (by decide) (by decide)
  iterate 3 (try simp_arith! [q1 0 [.lst ys] rfl, lRange_rng])
  refine ⟨rgOk0 (by omega) (by omega), ?_⟩
  refine wp_forL (fun l e h => ∃ (t : Str) (zs : List IV) (a2 a3 a4 a5 : Option IV), e = [some (.ref 0), some (.str t), a2, a3, a4, a5] ∧ h = [.lst zs] ∧ Cup zs ∧ t.length + 1 ≤ 13 * 2 ^ l.length ∧ l.length ≤ 2) ⟨s, z1, _, _, _, _, rfl, rfl, c1, by show _ ≤ 13 * 1; omega, by decide⟩ (fun _ _ _ _ => rfl) ?_ ?_
  · rintro l x r e h hx ⟨t, zs, a2, a3, a4, a5, rfl, rfl, cz, tl, ll⟩
    have hlen := congrArg List.length hx
    rw [rng_len, List.length_append, List.length_cons] at hlen
    have l1 : l.length ≤ 1 := by omega
    have p2 : (2 : Nat) ^ l.length ≤ 2 := by
      rcases (show l.length = 0 ∨ l.length = 1 by omega) with e | e <;> rw [e] <;> decide
    have tb : t.length ≤ 25 := by omega
    obtain ⟨a, z2, q2, a0, a1, -, c2⟩ := f_sip cz (n := (t.length : Int) + 1) (by omega) (by omega)
    obtain ⟨g, z3, q3, g0, g1, -, c3⟩ := f_sip c2 (n := 21) (by decide) (by decide)
    obtain ⟨ch, ix⟩ := sgn_at g0 g1
    obtain ⟨w, z4, q4, w0, w1, -, c4⟩ := f_sip c3 (n := 5) (by decide) (by decide)
    have k1 := cutS_length t none (some a)
    have k2 := cutS_length t (some a) none
    have k3 := cutS_length t (some (a + 1)) none
    have lc : (⟨#[ch]⟩ : Str).length = 1 := rfl
    have szt : t.length ≤ sizeLine := Nat.le_trans tb (by decide)
    refine ⟨_, _, rfl, ?_⟩
    iterate 4 (try simp_arith! [q2 0 [.lst zs] rfl, q3 0 [.lst z2] rfl, ix, q4 0 [.lst z3] rfl, szt])
    have pw : 13 * 2 ^ (l ++ [x]).length = 2 * (13 * 2 ^ l.length) := by rw [List.length_append, List.length_singleton, Nat.pow_succ]; omega
    have l2 : (l ++ [x]).length ≤ 2 := by rw [List.length_append, List.length_singleton]; omega
    rw [pw]
    generalize 13 * 2 ^ l.length = B at tl ⊢
    refine ⟨by omega, fun _ => ⟨by omega, _, _, _, _, _, _, rfl, rfl, c4, by omega, l2⟩, fun _ => ⟨fun _ => ⟨by omega, by omega, by omega, by rw [cat_len]; omega, _, _, _, _, _, _, rfl, rfl, c4, by rw [cat_len, cat_len]; omega, l2⟩, fun _ => ⟨fun _ => ⟨by omega, by omega, by omega, _, _, _, _, _, _, rfl, rfl, c4, by rw [cat_len]; omega, l2⟩, fun _ => ⟨by omega, by omega, by omega, by rw [cat_len]; omega, _, _, _, _, _, _, rfl, rfl, c4, by rw [cat_len, cat_len]; omega, l2⟩⟩⟩⟩
  · rintro e h ⟨t, zs, a2, a3, a4, a5, rfl, rfl, cz, tl, ll⟩
    have p2 : (2 : Nat) ^ (rng (1 + d)).length ≤ 4 := by
      have := ll
      rcases (show (rng (1 + d)).length = 0 ∨ (rng (1 + d)).length = 1 ∨ (rng (1 + d)).length = 2 by omega) with e | e | e <;> rw [e] <;> decide
    iterate 2 (try simp_arith! [])
    exact RtC.val rfl cz.bel ⟨t, rfl, by omega, cz⟩
end LW

namespace LW
open PySem L2 MM
theorem txt_len {n : Int} {xs : List Int} (c : Ch n xs) : (txt xs).length = xs.length := by rw [len_toList, txt_list, List.length_map]
theorem ft_str (s : Str) (h : IH) (n : Nat) : froz h n 70 (.str s) = some (.str s) := froz_self rfl
theorem frz_tup (h : IH) (n : Nat) (ns : List Int) : froz h n 70 (IV.tup (iz ns)) = some (.tup (iz ns)) := froz_self (by rw [b_tup]; exact below_iz n ns)
theorem frz_strs (h : IH) (n : Nat) (L : List Str) : froz h n 70 (IV.fz (L.map .str)) = some (.fz (L.map .str)) := froz_self (by rw [b_fz]; exact b_map n fun _ _ => rfl)
theorem repr_0n : (dv (.tup [.int 0, .non])).shown = Str.ofString "(0, None)" := by decide +kernel
theorem tl_0n : Tl (.tup [.int 0, .non]) := (Tw.tup (n := 0) (w := 0) (xs := [.int 0, .non]) fun v hv => by
  simp only [List.mem_cons, List.not_mem_nil, or_false] at hv
  rcases hv with rfl | rfl
  · exact Tw.int (by decide +kernel)
  · exact Tw.non).tl (by decide) (by decide)
theorem strOk_txt {n : Int} {xs : List Int} (c : Ch n xs) : PyData.strOk (txt xs) = true := by
  show (txt xs).cps.all (· < 0x110000) = true
  rw [Array.all_eq_true_iff_forall_mem]
  intro d hd
  have hd := Array.mem_toList_iff.mpr hd
  rw [txt_list] at hd
  obtain ⟨x, hx, rfl⟩ := List.mem_map.mp hd
  have := c.mem x hx
  have := c.hi
  exact decide_eq_true (by omega)
theorem ch_small' {n : Int} {xs : List Int} (c : Ch n xs) : ∀ x ∈ xs, x.natAbs < 10 ^ 90 := fun x hx => Nat.lt_of_lt_of_le (c.small x hx) (by decide)
theorem tl_two {v : IV} {m w : Nat} (t : Tw m w v) (hm : m ≤ 50) (hw : w ≤ 1000) : Tl (.fz [v, v]) := (Tw.fz (xs := [v, v]) fun u hu => by
  simp only [List.mem_cons, List.not_mem_nil, or_false, or_self] at hu
  rw [hu]
  exact t).tl (by omega) (by show 2 * (w + 1) ≤ 100000; omega)
/-- the odd texts -/
def oddS (t : Str) : List Str := [Str.ofString "", Str.ofString "0", Str.ofString "1", Str.ofString "10", Str.ofString "13", Str.ofString "9999999999", Str.ofString "99999999999", repS (Str.ofString "0") 11, repS (Str.ofString "0") 20000] ++ [Str.ofString "00000000000x", Str.ofString " 0", Str.ofString "0 ", Str.ofString "0\n"] ++ [t ++ Str.ofString "9", t ++ Str.ofString "x", cutS t none (some (-1)), Str.ofString "-1", repS (Str.ofString "9") 9, repS (Str.ofString "8") 9, Str.ofString "+0"]
theorem rps_cps02 (n : Nat) : ∀ (a : Array Nat), ((List.replicate n a).foldl (· ++ ·) #[]).size = n * a.size ∧ ∀ c ∈ ((List.replicate n a).foldl (· ++ ·) #[]).toList, c ∈ a.toList := by
  intro a
  have go : ∀ (n : Nat) (b : Array Nat), ((List.replicate n a).foldl (· ++ ·) b).size = b.size + n * a.size ∧ ∀ c ∈ ((List.replicate n a).foldl (· ++ ·) b).toList, c ∈ b.toList ∨ c ∈ a.toList := by
    intro n
    induction n with
    | zero => intro b; exact ⟨by simp, fun c hc => .inl hc⟩
    | succ n ih =>
      intro b
      rw [List.replicate_succ, List.foldl_cons]
      obtain ⟨q1, q2⟩ := ih (b ++ a)
      refine ⟨by rw [q1, Array.size_append, Nat.add_mul]; omega, fun c hc => ?_⟩
      rcases q2 c hc with hc | hc
      · rw [Array.toList_append] at hc
        exact List.mem_append.mp hc
      · exact .inr hc
  obtain ⟨q1, q2⟩ := go n #[]
  exact ⟨by rw [q1]; simp, fun c hc => (q2 c hc).elim (fun h => by cases h) id⟩
theorem rep_len (s : Str) (n : Nat) : (repS s n).length = n * s.length := (rps_cps02 n s.cps).1
theorem odd_len {t : Str} (ht : t.length ≤ 12) : ∀ s ∈ oddS t, s.length ≤ 100000 := by
  intro s hs
  unfold oddS at hs
  simp only [List.mem_append, List.mem_cons, List.not_mem_nil, or_false, or_assoc] at hs
  have z1 : (Str.ofString "0").length = 1 := rfl
  have z9 : (Str.ofString "9").length = 1 := rfl
  have z8 : (Str.ofString "8").length = 1 := rfl
  have zx : (Str.ofString "x").length = 1 := rfl
  have kc := cutS_length t none (some (-1))
  rcases hs with rfl | rfl | rfl | rfl | rfl | rfl | rfl | rfl | rfl | rfl | rfl | rfl | rfl | rfl | rfl | rfl | rfl | rfl | rfl | rfl <;> first | (rw [rep_len, z1]; omega) | (rw [rep_len, z9]; omega) | (rw [rep_len, z8]; omega) | (rw [cat_len]; omega) | omega | decide
theorem holds : ∀ ns : List Int, ns.length ≤ 63 → (∀ z ∈ ns, Builtin.Int.intBits z ≤ 1048576) → ∃ h', F_law [.fz (ns.map .int)] [] = .ok (.bl true) h' := by
  intro ns hl _
  refine ⟨[], spec E_law (by rw [b_cons, b_fz]; rw [show ns.map IV.int = iz ns from rfl, below_iz]; rfl) rfl ?_ []⟩
  show wp (b_law [some (.fz (iz ns)), none, none, none, none, none, none] []) _
  unfold b_law
  have ec : cut (iz ns) none (some 5) = iz (cut ns none (some 5)) := cut_map IV.int ns none (some 5)
  have hc := cut_len ns none (some 5)
  iterate 2 (try simp_arith! [ec, iz_len])
  refine ⟨by omega, ?_⟩
  rw [show (IV.int 66851292080524193670000000000000000000000298271605240271604942 :: iz (cut ns none (some 5))) = (66851292080524193670000000000000000000000298271605240271604942 :: cut ns none (some 5)).map IV.int from rfl]
  refine wp_forL (fun _ e h => ∃ a1 a2 a3 a4 a5 a6, e = [some (.fz (iz ns)), a1, a2, a3, a4, a5, a6] ∧ h = []) ⟨_, _, _, _, _, _, rfl, rfl⟩ (fun _ _ _ _ => rfl) ?_ ?_
  · rintro l x r e h hx ⟨a1, a2, a3, a4, a5, a6, rfl, rfl⟩
    refine ⟨_, _, rfl, wp_gc ?_⟩
    obtain ⟨z0, q0, -, c0⟩ := f_cup x
    obtain ⟨m, z1, q1, m0, m1, -, c1⟩ := f_sip c0 (n := 10) (by decide) (by decide)
    obtain ⟨xs, z2, q2, cx, -, c2⟩ := f_chart c1 (n := 1 + m) (by omega) (by omega)
    have tc := txt_chart cx
    have wr_ := fun h => f_written cx h
    have ct := fun h => f_chart_text cx h
    have tl := txt_len cx
    have xl := cx.len
    have l10 : (txt xs).cps.toList.length ≤ 100000 := by rw [← len_toList, tl]; omega
    have ty := fun h => f_chart_toldY rfl l10 tc.1 h
    rw [tc.2] at ty
    have t1 := fun h => repr_tl (tl_two (Tw.str (strOk_txt cx)) (by decide) (by show (txt xs).length ≤ 1000; omega)) h
    have t2 := fun h => repr_tl (tl_two (v := .tup (iz xs)) (Tw.tup (Tw.ints (ch_small' cx))) (by decide) (by rw [iz_len]; omega)) h
    obtain ⟨s1, z3, q3, sl1, -, c3⟩ := f_tbent c2 (s := txt xs) (by omega)
    obtain ⟨s2, z4, q4, sl2, -, c4⟩ := f_tbent c3 (s := txt xs) (by omega)
    obtain ⟨d, z5, q5, d0, d1, -, c5⟩ := f_sip c4 (n := 20) (by decide) (by decide)
    have szt : (txt xs).length ≤ sizeLine := Nat.le_trans (show (txt xs).length ≤ 100 by omega) (by decide)
    iterate 8 (try simp_arith! [q0, q1 0 [.lst z0] rfl, q2 0 [.lst z1] rfl, wr_, ct, pick1, t1, t2, sbeq, ty, ne_tt, decide_true, q3 0 [.lst z2] rfl, q4 0 [.lst z3] rfl, q5 0 [.lst z4] rfl, szt])
    have l9 : (Str.ofString "9").length = 1 := rfl
    have lx : (Str.ofString "x").length = 1 := rfl
    obtain ⟨v, hv, hm⟩ := atI_in (xs := (oddS (txt xs)).map IV.str) d0 (show d < 20 from d1)
    obtain ⟨s4, hs4, rfl⟩ := List.mem_map.mp hm
    have sl4 := odd_len (t := txt xs) (by omega) s4 hs4
    refine ⟨by decide, by decide, by decide, by decide, by omega, by omega, by omega, by decide, by decide, by decide, by decide, IV.str s4, hv, ?_⟩
    iterate 2 (try simp_arith! [])
    generalize IV.fz [IV.str (Str.ofString ""), IV.str (Str.ofString "0"), IV.str (Str.ofString "1"), IV.str (Str.ofString "10"), IV.str (Str.ofString "13"), IV.str (Str.ofString "9999999999"), IV.str (Str.ofString "99999999999"), IV.str (repS (Str.ofString "0") 11), IV.str (repS (Str.ofString "0") 20000), IV.str (Str.ofString "00000000000x"), IV.str (Str.ofString " 0"), IV.str (Str.ofString "0 "), IV.str (Str.ofString "0\n"), IV.str (txt xs ++ Str.ofString "9"), IV.str (txt xs ++ Str.ofString "x"), IV.str (cutS (txt xs) none (some (-1))), IV.str (Str.ofString "-1"), IV.str (repS (Str.ofString "9") 9), IV.str (repS (Str.ofString "8") 9), IV.str (Str.ofString "+0")] = OV
    rw [show [IV.str (txt xs), .str s1, .str s2, .str s4] = [txt xs, s1, s2, s4].map IV.str from rfl]
    refine wp_forL (fun _ e h => ∃ b6, e = [some (.fz (iz ns)), some (.int x), some (.ref 0), some (.tup (iz xs)), some (.str (txt xs)), some OV, b6] ∧ h = [.lst z5]) ⟨_, rfl, rfl⟩ (fun _ _ _ _ => rfl) ?_ ?_
    · rintro l' y r' e h hy ⟨b6, rfl, rfl⟩
      have ym : y ∈ [txt xs, s1, s2, s4] := by rw [hy]; simp
      have yl : y.cps.toList.length ≤ 100000 := by
        rw [← len_toList]
        simp only [List.mem_cons, List.not_mem_nil, or_false] at ym
        rcases ym with rfl | rfl | rfl | rfl
        · omega
        · exact sl1
        · exact sl2
        · exact sl4
      have p1 := fun h => f_ltold (s := y) rfl yl h
      have p2 := fun h => f_read (s := y) rfl yl h
      have p3 := fun h => repr_tl (tl_ans y.cps.toList) h
      refine ⟨_, _, rfl, ?_⟩
      iterate 4 (try simp_arith! [p1, p2, p3, sbeq])
      first | exact ⟨_, rfl, rfl⟩ | exact ⟨_, rfl⟩ | skip
    · rintro e h ⟨b6, rfl, rfl⟩
      iterate 2 (try simp_arith! [])
      refine wp_forM (fun _ e h => ∃ b6, e = [some (.fz (iz ns)), some (.int x), some (.ref 0), some (.tup (iz xs)), some (.str (txt xs)), some OV, b6] ∧ h = [.lst z5]) ⟨_, rfl, rfl⟩ (fun _ _ _ _ _ => rfl) ?_ ?_
      · rintro i hi e h ⟨b6, rfl, rfl⟩
        have g : ∀ v ∈ [IV.non, .int 7, .tup [.str (Str.ofString "0")], .fz [.str (Str.ofString "0")], .bl true], below 0 v = true ∧ ∀ s, v ≠ .str s := by
          intro v hv
          simp only [List.mem_cons, List.not_mem_nil, or_false] at hv
          rcases hv with rfl | rfl | rfl | rfl | rfl <;> exact ⟨rfl, fun _ h => by cases h⟩
        have gv := g _ (List.getElem_mem hi)
        generalize ([IV.non, .int 7, .tup [.str (Str.ofString "0")], .fz [.str (Str.ofString "0")], .bl true] : List IV)[i] = v at gv ⊢
        have p1 := fun h => f_ltoldO gv.1 gv.2 h
        have p3 := fun h => repr_tl tl_0n h
        rw [repr_0n] at p3
        refine ⟨_, _, rfl, ?_⟩
        iterate 4 (try simp_arith! [p1, p3, sbeq])
        first | exact ⟨_, rfl, rfl⟩ | exact ⟨_, rfl⟩ | skip
      · rintro e h ⟨b6, rfl, rfl⟩
        obtain ⟨w, z6, q6, bw, cw, -, c6⟩ := f_bad_chartB c5 cx
        have rf := fun h => f_refused bw cw h
        iterate 4 (try simp_arith! [q6 0 [.lst z5] rfl, rf, sbeq, frz_cons, frz_nil, frz_iz])
        exact ⟨rfl, _, _, _, _, _, _, rfl, rfl⟩
  · rintro e h ⟨a1, a2, a3, a4, a5, a6, rfl, rfl⟩
    iterate 2 (try simp_arith! [])
end LW


namespace LW
open PySem L2 MM
def top (i : Nat) : Stmt := PySem.Challenge.pw_everynext_k02_texts_of_charts.main.body.getD i (.Pass ⟨0, 0, 0, 0⟩)
abbrev s__law_cup : Stmt := top 16
abbrev s__law_sip : Stmt := top 17
abbrev s__law_row : Stmt := top 18
abbrev s__law_chart : Stmt := top 19
abbrev s__law_written : Stmt := top 22
abbrev s_is_integer : Stmt := top 6
abbrev s_is_between : Stmt := top 7
abbrev s_is_chart : Stmt := top 10
abbrev s_check_chart : Stmt := top 11
abbrev s_text_of : Stmt := top 12
abbrev s_chart_text : Stmt := top 13
abbrev s_chart_told : Stmt := top 14
abbrev s__law_bent : Stmt := top 23
abbrev s__law_told : Stmt := top 24
abbrev s__law_read : Stmt := top 21
abbrev s__law_refused : Stmt := top 25
abbrev s__law_bad_chart : Stmt := top 20
abbrev s_law : Stmt := top 26
structure Bi (P : Program) (K : PySem.W.Frag) (C : Cc) (mg : Str → Option Value) : Prop where
  n_all : mg "all" = none
  n_bool : mg "bool" = none
  n_enumerate : mg "enumerate" = none
  n_int : mg "int" = none
  n_isinstance : mg "isinstance" = none
  n_len : mg "len" = none
  n_list : mg "list" = none
  n_max : mg "max" = none
  n_range : mg "range" = none
  n_repr : mg "repr" = none
  n_str : mg "str" = none
  n_super : mg "super" = none
  n_tuple : mg "tuple" = none
  c_MOST_PLACES : ∃ t, mg "MOST_PLACES" = some (.int 10 t)
  s_DIGITS : ∃ t, mg "DIGITS" = some (.str "0123456789" t)
  e_InvalidChart : ExC K mg "InvalidChart" (C.ca 1)
  v_InvalidText : SupR P K mg "InvalidText" (C.ca 2) (C.cf 2)
  f_InvalidText : XfC K (C.ca 2) ∧ C.cf 2 = "index" ∧ PySem.W.findIn K (.ref (C.ca 2)) "index" = some none
  h_NextError : mg "NextError" = some (.ref (C.ca 0))
  h_InvalidChart : mg "InvalidChart" = some (.ref (C.ca 1))
  h_InvalidText : mg "InvalidText" = some (.ref (C.ca 2))
  xt : Xf K C xtb
section
variable {P : Program} {w : World} {K : PySem.W.Frag} {mg : Str → Option Value} {base : Heap} {C : Cc}
theorem bi__law_cup {f : Addr} {fd : FuncData} (F1 : Fun K "_law_cup" "_law_cup" s__law_cup f fd) : Binds K fd ["_law_cell"] [] := F1.binds fun _ _ _ _ _ _ us hl => match us, hl with | [_], _ => rfl
theorem bi__law_sip {f : Addr} {fd : FuncData} (F1 : Fun K "_law_sip" "_law_sip" s__law_sip f fd) : Binds K fd ["_law_cup_here", "_law_many"] [] := F1.binds fun _ _ _ _ _ _ us hl => match us, hl with | [_, _], _ => rfl
theorem bi__law_row {f : Addr} {fd : FuncData} (F1 : Fun K "_law_row" "_law_row" s__law_row f fd) : Binds K fd ["_law_cup_here", "_law_many"] [] := F1.binds fun _ _ _ _ _ _ us hl => match us, hl with | [_, _], _ => rfl
theorem bi__law_chart {f : Addr} {fd : FuncData} (F1 : Fun K "_law_chart" "_law_chart" s__law_chart f fd) : Binds K fd ["_law_cup_here", "_law_many"] [] := F1.binds fun _ _ _ _ _ _ us hl => match us, hl with | [_, _], _ => rfl
theorem bi__law_written {f : Addr} {fd : FuncData} (F1 : Fun K "_law_written" "_law_written" s__law_written f fd) : Binds K fd ["_law_chart_here"] [] := F1.binds fun _ _ _ _ _ _ us hl => match us, hl with | [_], _ => rfl
theorem bi_is_integer {f : Addr} {fd : FuncData} (F1 : Fun K "is_integer" "is_integer" s_is_integer f fd) : Binds K fd ["value"] [] := F1.binds fun _ _ _ _ _ _ us hl => match us, hl with | [_], _ => rfl
theorem bi_is_between {f : Addr} {fd : FuncData} (F1 : Fun K "is_between" "is_between" s_is_between f fd) : Binds K fd ["low", "value", "high"] [] := F1.binds fun _ _ _ _ _ _ us hl => match us, hl with | [_, _, _], _ => rfl
theorem bi_is_chart {f : Addr} {fd : FuncData} (F1 : Fun K "is_chart" "is_chart" s_is_chart f fd) : Binds K fd ["value"] [] := F1.binds fun _ _ _ _ _ _ us hl => match us, hl with | [_], _ => rfl
theorem bi_check_chart {f : Addr} {fd : FuncData} (F1 : Fun K "check_chart" "check_chart" s_check_chart f fd) : Binds K fd ["value"] [] := F1.binds fun _ _ _ _ _ _ us hl => match us, hl with | [_], _ => rfl
theorem bi_text_of {f : Addr} {fd : FuncData} (F1 : Fun K "text_of" "text_of" s_text_of f fd) : Binds K fd ["chart"] [] := F1.binds fun _ _ _ _ _ _ us hl => match us, hl with | [_], _ => rfl
theorem bi_chart_text {f : Addr} {fd : FuncData} (F1 : Fun K "chart_text" "chart_text" s_chart_text f fd) : Binds K fd ["chart"] [] := F1.binds fun _ _ _ _ _ _ us hl => match us, hl with | [_], _ => rfl
theorem bi_chart_told {f : Addr} {fd : FuncData} (F1 : Fun K "chart_told" "chart_told" s_chart_told f fd) : Binds K fd ["text"] [] := F1.binds fun _ _ _ _ _ _ us hl => match us, hl with | [_], _ => rfl
theorem bi__law_bent {f : Addr} {fd : FuncData} (F1 : Fun K "_law_bent" "_law_bent" s__law_bent f fd) : Binds K fd ["_law_cup_here", "_law_text"] [] := F1.binds fun _ _ _ _ _ _ us hl => match us, hl with | [_, _], _ => rfl
theorem bi__law_told {f : Addr} {fd : FuncData} (F1 : Fun K "_law_told" "_law_told" s__law_told f fd) : Binds K fd ["_law_value"] [] := F1.binds fun _ _ _ _ _ _ us hl => match us, hl with | [_], _ => rfl
theorem bi__law_read {f : Addr} {fd : FuncData} (F1 : Fun K "_law_read" "_law_read" s__law_read f fd) : Binds K fd ["_law_text"] [] := F1.binds fun _ _ _ _ _ _ us hl => match us, hl with | [_], _ => rfl
theorem bi__law_refused {f : Addr} {fd : FuncData} (F1 : Fun K "_law_refused" "_law_refused" s__law_refused f fd) : Binds K fd ["_law_value"] [] := F1.binds fun _ _ _ _ _ _ us hl => match us, hl with | [_], _ => rfl
theorem bi__law_bad_chart {f : Addr} {fd : FuncData} (F1 : Fun K "_law_bad_chart" "_law_bad_chart" s__law_bad_chart f fd) : Binds K fd ["_law_cup_here", "_law_chart_here"] [] := F1.binds fun _ _ _ _ _ _ us hl => match us, hl with | [_, _], _ => rfl
theorem kw_0 {f : Addr} {fd : FuncData} (F1 : Fun K "chart_told" "chart_told" s_chart_told f fd) : KwOk K fd ["text"] ["text"] [0] 0 := MM.Fun.kw F1 fun _ _ _ _ _ _ us ws h1 h2 => match us, ws, h1, h2 with | [], [_], _, _ => rfl
theorem kw_1 {f : Addr} {fd : FuncData} (F1 : Fun K "chart_text" "chart_text" s_chart_text f fd) : KwOk K fd ["chart"] ["chart"] [0] 0 := MM.Fun.kw F1 fun _ _ _ _ _ _ us ws h1 h2 => match us, ws, h1, h2 with | [], [_], _, _ => rfl
theorem sc__law_cup : FnScope ["_law_cell"] ["_law_cell"] (defScope s__law_cup) := ⟨rfl, rfl, rfl, by decide +kernel, rfl, by decide +kernel, by decide +kernel⟩
theorem ok__law_cup {f : Addr} {fd : FuncData} (Fn : Fun K "_law_cup" "_law_cup" s__law_cup f fd) (T : Bi P K C mg) :
    FnM P w K mg base C 1 f fd ["_law_cell"] F__law_cup := by
  rw [E__law_cup]
  refine FnM.new (fn_mkG finROk Fn sc__law_cup rfl fun cdv A outer s H E hr hgd => ?_)
  exact (ms_one (ms_ret (m_new (m_lst (m_aCons (m_if (m_cmpT om_ge (m_var (i := 0) rfl (by first | exact Or.inl rfl | exact Or.inr (Or.inl rfl) | exact Or.inr (Or.inr rfl)) rfl rfl) (m_op om_pow m_int m_int) rfl) (m_op om_sub (m_int1 (by rfl) (T.n_int) (m_var (i := 0) rfl (by first | exact Or.inl rfl | exact Or.inr (Or.inl rfl) | exact Or.inr (Or.inr rfl)) rfl rfl) (by rfl) (by rfl)) (m_op om_pow m_int m_int)) m_int) (m_aCons (m_addV (m_op om_mod (m_int1 (by rfl) (T.n_int) (m_var (i := 0) rfl (by first | exact Or.inl rfl | exact Or.inr (Or.inl rfl) | exact Or.inr (Or.inr rfl)) rfl rfl) (by rfl) (by rfl)) m_int) m_int) m_aNil rfl) rfl)))))
theorem sc__law_sip : FnScope ["_law_cup_here", "_law_many", "_law_drop"] ["_law_cup_here", "_law_many"] (defScope s__law_sip) := ⟨rfl, rfl, rfl, by decide +kernel, rfl, by decide +kernel, by decide +kernel⟩
theorem ok__law_sip {f : Addr} {fd : FuncData} (Fn : Fun K "_law_sip" "_law_sip" s__law_sip f fd) (T : Bi P K C mg) :
    FnM P w K mg base C 1 f fd ["_law_cup_here", "_law_many"] F__law_sip := by
  rw [E__law_sip]
  refine FnM.cell (fn_mkG finOk Fn sc__law_sip rfl fun cdv A outer s H E hr hgd => ?_)
  exact (ms_cons (ms_if (m_cmpT om_gt (m_ixV (m_var (i := 0) rfl (by first | exact Or.inl rfl | exact Or.inr (Or.inl rfl) | exact Or.inr (Or.inr rfl)) rfl rfl) m_int (fun _ _ => rfl)) m_int rfl) (ms_cons (ms_asg (m_op om_mod (m_int1 (by rfl) (T.n_int) (m_ixV (m_var (i := 0) rfl (by first | exact Or.inl rfl | exact Or.inr (Or.inl rfl) | exact Or.inr (Or.inr rfl)) rfl rfl) m_int (fun _ _ => rfl)) (by rfl) (by rfl)) (m_var (i := 1) rfl (by first | exact Or.inl rfl | exact Or.inr (Or.inl rfl) | exact Or.inr (Or.inr rfl)) rfl rfl)) (mg_name (i := 2) sc__law_sip.nd rfl (by first | exact Or.inl rfl | exact Or.inr rfl) (by first | exact Or.inl rfl | exact Or.inr rfl)) rfl rfl rfl)
    (ms_cons (ms_asg (m_op om_div (m_ixV (m_var (i := 0) rfl (by first | exact Or.inl rfl | exact Or.inr (Or.inl rfl) | exact Or.inr (Or.inr rfl)) rfl rfl) m_int (fun _ _ => rfl)) (m_var (i := 1) rfl (by first | exact Or.inl rfl | exact Or.inr (Or.inl rfl) | exact Or.inr (Or.inr rfl)) rfl rfl)) (mg_sub (C := C) (W := fun _ _ _ _ => False) (m_var (i := 0) rfl (by first | exact Or.inl rfl | exact Or.inr (Or.inl rfl) | exact Or.inr (Or.inr rfl)) rfl rfl) m_int (fun _ => rfl)) rfl rfl rfl)
    (ms_one (ms_ret (m_var (i := 2) rfl (by first | exact Or.inl rfl | exact Or.inr (Or.inl rfl) | exact Or.inr (Or.inr rfl)) rfl rfl))))) ms_nil)
    (ms_cons (ms_asg (m_op om_mod (m_int1 (by rfl) (T.n_int) (m_op om_mulV (m_ixV (m_var (i := 0) rfl (by first | exact Or.inl rfl | exact Or.inr (Or.inl rfl) | exact Or.inr (Or.inr rfl)) rfl rfl) m_int (fun _ _ => rfl)) m_int) (by rfl) (by rfl)) m_int) (mg_sub (C := C) (W := fun _ _ _ _ => False) (m_var (i := 0) rfl (by first | exact Or.inl rfl | exact Or.inr (Or.inl rfl) | exact Or.inr (Or.inr rfl)) rfl rfl) m_int (fun _ => rfl)) rfl rfl rfl)
    (ms_one (ms_ret (m_op om_mod (m_op om_div (m_op om_mod (m_int1 (by rfl) (T.n_int) (m_op om_mulV (m_ixV (m_var (i := 0) rfl (by first | exact Or.inl rfl | exact Or.inr (Or.inl rfl) | exact Or.inr (Or.inr rfl)) rfl rfl) m_int (fun _ _ => rfl)) (m_ixV (m_var (i := 0) rfl (by first | exact Or.inl rfl | exact Or.inr (Or.inl rfl) | exact Or.inr (Or.inr rfl)) rfl rfl) m_int (fun _ _ => rfl))) (by rfl) (by rfl)) m_int) m_int) (m_var (i := 1) rfl (by first | exact Or.inl rfl | exact Or.inr (Or.inl rfl) | exact Or.inr (Or.inr rfl)) rfl rfl))))))
theorem sc__law_row : FnScope ["_law_cup_here", "_law_many", "_law_left", "_law_row_here"] ["_law_cup_here", "_law_many"] (defScope s__law_row) := ⟨rfl, rfl, rfl, by decide +kernel, rfl, by decide +kernel, by decide +kernel⟩
theorem ok__law_row {f : Addr} {fd : FuncData} (Fn : Fun K "_law_row" "_law_row" s__law_row f fd) (T : Bi P K C mg)
    (c__law_sip : CalM P w K mg base C 1 "_law_sip" s__law_sip ["_law_cup_here", "_law_many"] F__law_sip) :
    FnM P w K mg base C 2 f fd ["_law_cup_here", "_law_many"] F__law_row := by
  rw [E__law_row]
  refine FnM.cell (fn_mkG finOk Fn sc__law_row rfl fun cdv A outer s H E hr hgd => ?_)
  exact (ms_cons (ms_par rfl sc__law_row.nd rfl rfl (by decide) rfl rfl (m_aCons (m_new (m_listRg (by rfl) (by rfl) (T.n_list) (by rfl) (T.n_range) (m_var (i := 1) rfl (by first | exact Or.inl rfl | exact Or.inr (Or.inl rfl) | exact Or.inr (Or.inr rfl)) rfl rfl) (by rfl) (by rfl))) (m_aCons (m_new (m_lst m_aNil)) m_aNil rfl) rfl) rfl rfl)
    (ms_cons (ms_while (passes_of rfl) (m_cmpT (om_ne (hu64 hr)) (m_var (i := 2) rfl (by first | exact Or.inl rfl | exact Or.inr (Or.inl rfl) | exact Or.inr (Or.inr rfl)) rfl rfl) (m_fz (m_lst m_aNil)) rfl) (ms_one (ms_expr (m_meth mm_append (m_var (i := 3) rfl (by first | exact Or.inl rfl | exact Or.inr (Or.inl rfl) | exact Or.inr (Or.inr rfl)) rfl rfl) (m_aCons (m_meth mm_pop (m_var (i := 2) rfl (by first | exact Or.inl rfl | exact Or.inr (Or.inl rfl) | exact Or.inr (Or.inr rfl)) rfl rfl) (m_aCons (g_call c__law_sip hr hgd (takes_of rfl rfl rfl rfl) (fun _ _ F1 => bi__law_sip F1) (m_aCons (m_var (i := 0) rfl (by first | exact Or.inl rfl | exact Or.inr (Or.inl rfl) | exact Or.inr (Or.inr rfl)) rfl rfl) (m_aCons (m_lenV (by rfl) (T.n_len) (m_var (i := 2) rfl (by first | exact Or.inl rfl | exact Or.inr (Or.inl rfl) | exact Or.inr (Or.inr rfl)) rfl rfl) (by rfl) (by rfl)) m_aNil rfl) rfl) (by first | decide | omega | (simp only [Nat.add_eq] <;> omega))) m_aNil rfl) (fun h1 h2 h3 => pe_bm PySem.F.plainAttrs_list PySem.F.slot_list_pop PySem.F.type_list_pop h1 h2 h3)) m_aNil rfl) (fun h1 h2 h3 => pe_bm PySem.F.plainAttrs_list PySem.F.slot_list_append PySem.F.type_list_append h1 h2 h3)) rfl)))
    (ms_one (ms_ret (m_var (i := 3) rfl (by first | exact Or.inl rfl | exact Or.inr (Or.inl rfl) | exact Or.inr (Or.inr rfl)) rfl rfl)))))
theorem sc__law_chart : FnScope ["_law_cup_here", "_law_many", "_law_found", "_law_k", "_law_way", "_law_row_here", "_law_there"] ["_law_cup_here", "_law_many"] (defScope s__law_chart) := ⟨rfl, rfl, rfl, by decide +kernel, rfl, by decide +kernel, by decide +kernel⟩
theorem ok__law_chart {f : Addr} {fd : FuncData} (Fn : Fun K "_law_chart" "_law_chart" s__law_chart f fd) (T : Bi P K C mg)
    (c__law_sip : CalM P w K mg base C 1 "_law_sip" s__law_sip ["_law_cup_here", "_law_many"] F__law_sip)
    (c__law_row : CalM P w K mg base C 2 "_law_row" s__law_row ["_law_cup_here", "_law_many"] F__law_row) :
    FnM P w K mg base C 3 f fd ["_law_cup_here", "_law_many"] F__law_chart := by
  rw [E__law_chart]
  refine FnM.cell (fn_mkG finOk Fn sc__law_chart rfl fun cdv A outer s H E hr hgd => ?_)
  exact (ms_cons (ms_par rfl sc__law_chart.nd rfl rfl (by decide) rfl rfl (m_aCons (g_call c__law_sip hr hgd (takes_of rfl rfl rfl rfl) (fun _ _ F1 => bi__law_sip F1) (m_aCons (m_var (i := 0) rfl (by first | exact Or.inl rfl | exact Or.inr (Or.inl rfl) | exact Or.inr (Or.inr rfl)) rfl rfl) (m_aCons m_int m_aNil rfl) rfl) (by first | decide | omega | (simp only [Nat.add_eq] <;> omega))) (m_aCons (g_call c__law_row hr hgd (takes_of rfl rfl rfl rfl) (fun _ _ F1 => bi__law_row F1) (m_aCons (m_var (i := 0) rfl (by first | exact Or.inl rfl | exact Or.inr (Or.inl rfl) | exact Or.inr (Or.inr rfl)) rfl rfl) (m_aCons (m_var (i := 1) rfl (by first | exact Or.inl rfl | exact Or.inr (Or.inl rfl) | exact Or.inr (Or.inr rfl)) rfl rfl) m_aNil rfl) rfl) (by first | decide | omega | (simp only [Nat.add_eq] <;> omega))) m_aNil rfl) rfl) rfl rfl)
    (ms_cons (ms_asg (m_new (m_rep (m_lst (m_aCons m_int m_aNil rfl)) (m_var (i := 1) rfl (by first | exact Or.inl rfl | exact Or.inr (Or.inl rfl) | exact Or.inr (Or.inr rfl)) rfl rfl))) (mg_name (i := 2) sc__law_chart.nd rfl (by first | exact Or.inl rfl | exact Or.inr rfl) (by first | exact Or.inl rfl | exact Or.inr rfl)) rfl rfl rfl)
    (ms_cons (ms_for (passes_of rfl) rfl (mi_rg1 (by rfl) (T.n_range) (m_var (i := 1) rfl (by first | exact Or.inl rfl | exact Or.inr (Or.inl rfl) | exact Or.inr (Or.inr rfl)) rfl rfl) (by rfl) (by rfl)) (mg_name (i := 3) sc__law_chart.nd rfl (by first | exact Or.inl rfl | exact Or.inr rfl) (by first | exact Or.inl rfl | exact Or.inr rfl)) (ms_cons (ms_asg (g_call c__law_sip hr hgd (takes_of rfl rfl rfl rfl) (fun _ _ F1 => bi__law_sip F1) (m_aCons (m_var (i := 0) rfl (by first | exact Or.inl rfl | exact Or.inr (Or.inl rfl) | exact Or.inr (Or.inr rfl)) rfl rfl) (m_aCons (m_var (i := 1) rfl (by first | exact Or.inl rfl | exact Or.inr (Or.inl rfl) | exact Or.inr (Or.inr rfl)) rfl rfl) m_aNil rfl) rfl) (by first | decide | omega | (simp only [Nat.add_eq] <;> omega))) (mg_name (i := 6) sc__law_chart.nd rfl (by first | exact Or.inl rfl | exact Or.inr rfl) (by first | exact Or.inl rfl | exact Or.inr rfl)) rfl rfl rfl)
    (ms_cons (ms_if (PW.pt (m_andT (m_cmpT (om_eq (hu64 hr)) (m_var (i := 4) rfl (by first | exact Or.inl rfl | exact Or.inr (Or.inl rfl) | exact Or.inr (Or.inr rfl)) rfl rfl) m_int rfl) (m_andT (m_cmpT om_gt (m_var (i := 3) rfl (by first | exact Or.inl rfl | exact Or.inr (Or.inl rfl) | exact Or.inr (Or.inr rfl)) rfl rfl) m_int rfl) (pw_and1 (m_cmpT om_gt (g_call c__law_sip hr hgd (takes_of rfl rfl rfl rfl) (fun _ _ F1 => bi__law_sip F1) (m_aCons (m_var (i := 0) rfl (by first | exact Or.inl rfl | exact Or.inr (Or.inl rfl) | exact Or.inr (Or.inr rfl)) rfl rfl) (m_aCons m_int m_aNil rfl) rfl) (by first | decide | omega | (simp only [Nat.add_eq] <;> omega))) m_int rfl))))) (ms_one (ms_asg (m_op om_sub (m_var (i := 3) rfl (by first | exact Or.inl rfl | exact Or.inr (Or.inl rfl) | exact Or.inr (Or.inr rfl)) rfl rfl) m_int) (mg_name (i := 6) sc__law_chart.nd rfl (by first | exact Or.inl rfl | exact Or.inr rfl) (by first | exact Or.inl rfl | exact Or.inr rfl)) rfl rfl rfl)) ms_nil)
    (ms_cons (ms_if (PW.pt (m_andT (m_cmpT (om_eq (hu64 hr)) (m_var (i := 4) rfl (by first | exact Or.inl rfl | exact Or.inr (Or.inl rfl) | exact Or.inr (Or.inr rfl)) rfl rfl) m_int rfl) (m_andT (m_cmpT om_gt (m_var (i := 3) rfl (by first | exact Or.inl rfl | exact Or.inr (Or.inl rfl) | exact Or.inr (Or.inr rfl)) rfl rfl) m_int rfl) (pw_and1 (m_cmpT om_gt (g_call c__law_sip hr hgd (takes_of rfl rfl rfl rfl) (fun _ _ F1 => bi__law_sip F1) (m_aCons (m_var (i := 0) rfl (by first | exact Or.inl rfl | exact Or.inr (Or.inl rfl) | exact Or.inr (Or.inr rfl)) rfl rfl) (m_aCons m_int m_aNil rfl) rfl) (by first | decide | omega | (simp only [Nat.add_eq] <;> omega))) m_int rfl))))) (ms_one (ms_asg (m_op om_mod (m_var (i := 6) rfl (by first | exact Or.inl rfl | exact Or.inr (Or.inl rfl) | exact Or.inr (Or.inr rfl)) rfl rfl) (m_addV m_int (m_op om_div (m_var (i := 3) rfl (by first | exact Or.inl rfl | exact Or.inr (Or.inl rfl) | exact Or.inr (Or.inr rfl)) rfl rfl) m_int))) (mg_name (i := 6) sc__law_chart.nd rfl (by first | exact Or.inl rfl | exact Or.inr rfl) (by first | exact Or.inl rfl | exact Or.inr rfl)) rfl rfl rfl)) ms_nil)
    (ms_one (ms_asg (m_ixV (m_var (i := 5) rfl (by first | exact Or.inl rfl | exact Or.inr (Or.inl rfl) | exact Or.inr (Or.inr rfl)) rfl rfl) (m_var (i := 6) rfl (by first | exact Or.inl rfl | exact Or.inr (Or.inl rfl) | exact Or.inr (Or.inr rfl)) rfl rfl) (fun _ _ => rfl)) (mg_sub (C := C) (W := fun _ _ _ _ => False) (m_var (i := 2) rfl (by first | exact Or.inl rfl | exact Or.inr (Or.inl rfl) | exact Or.inr (Or.inr rfl)) rfl rfl) (m_ixV (m_var (i := 5) rfl (by first | exact Or.inl rfl | exact Or.inr (Or.inl rfl) | exact Or.inr (Or.inr rfl)) rfl rfl) (m_var (i := 3) rfl (by first | exact Or.inl rfl | exact Or.inr (Or.inl rfl) | exact Or.inr (Or.inr rfl)) rfl rfl) (fun _ _ => rfl)) (fun _ => rfl)) rfl rfl rfl))))) (fun h1 h2 h3 h4 h5 => ps_for h1 h2 h3 h4 h5))
    (ms_one (ms_ret (m_if (m_cmpT (om_ne (hu64 hr)) (m_var (i := 4) rfl (by first | exact Or.inl rfl | exact Or.inr (Or.inl rfl) | exact Or.inr (Or.inr rfl)) rfl rfl) m_int rfl) (m_tuple (by rfl) (T.n_tuple) (pe_qV (m_var (i := 2) rfl (by first | exact Or.inl rfl | exact Or.inr (Or.inl rfl) | exact Or.inr (Or.inr rfl)) rfl rfl)) (by rfl) (by rfl)) (m_tuple (by rfl) (T.n_tuple) (pe_qV (m_var (i := 5) rfl (by first | exact Or.inl rfl | exact Or.inr (Or.inl rfl) | exact Or.inr (Or.inr rfl)) rfl rfl)) (by rfl) (by rfl))))))))
theorem sc__law_written : FnScope ["_law_chart_here", "_law_text", "_law_place"] ["_law_chart_here"] (defScope s__law_written) := ⟨rfl, rfl, rfl, by decide +kernel, rfl, by decide +kernel, by decide +kernel⟩
theorem ok__law_written {f : Addr} {fd : FuncData} (Fn : Fun K "_law_written" "_law_written" s__law_written f fd) (T : Bi P K C mg) :
    FnM P w K mg base C 1 f fd ["_law_chart_here"] F__law_written := by
  rw [E__law_written]
  refine FnM.pure (fn_mkG finOk Fn sc__law_written rfl fun cdv A outer s H E hr hgd => ?_)
  exact (ms_cons (ms_asg m_str (mg_name (i := 1) sc__law_written.nd rfl (by first | exact Or.inl rfl | exact Or.inr rfl) (by first | exact Or.inl rfl | exact Or.inr rfl)) rfl rfl rfl)
    (ms_cons (ms_for (passes_of rfl) rfl (mi_seq (m_var (i := 0) rfl (by first | exact Or.inl rfl | exact Or.inr (Or.inl rfl) | exact Or.inr (Or.inr rfl)) rfl rfl)) (mg_name (i := 2) sc__law_written.nd rfl (by first | exact Or.inl rfl | exact Or.inr rfl) (by first | exact Or.inl rfl | exact Or.inr rfl)) (ms_one (ms_asg (m_addV (m_var (i := 1) rfl (by first | exact Or.inl rfl | exact Or.inr (Or.inl rfl) | exact Or.inr (Or.inr rfl)) rfl rfl) (m_ixV m_str (m_var (i := 2) rfl (by first | exact Or.inl rfl | exact Or.inr (Or.inl rfl) | exact Or.inr (Or.inr rfl)) rfl rfl) (fun _ _ => rfl))) (mg_name (i := 1) sc__law_written.nd rfl (by first | exact Or.inl rfl | exact Or.inr rfl) (by first | exact Or.inl rfl | exact Or.inr rfl)) rfl rfl rfl)) (fun h1 h2 h3 h4 h5 => ps_for h1 h2 h3 h4 h5))
    (ms_one (ms_ret (m_var (i := 1) rfl (by first | exact Or.inl rfl | exact Or.inr (Or.inl rfl) | exact Or.inr (Or.inr rfl)) rfl rfl)))))
theorem sc_is_integer : FnScope ["value"] ["value"] (defScope s_is_integer) := ⟨rfl, rfl, rfl, by decide +kernel, rfl, by decide +kernel, by decide +kernel⟩
theorem ok_is_integer {f : Addr} {fd : FuncData} (Fn : Fun K "is_integer" "is_integer" s_is_integer f fd) (T : Bi P K C mg) :
    FnM P w K mg base C 1 f fd ["value"] F_is_integer := by
  rw [E_is_integer]
  refine FnM.pure (fn_mkG finOk Fn sc_is_integer rfl fun cdv A outer s H E hr hgd => ?_)
  exact (ms_one (ms_ret (m_and (m_isi (T := "int") (by rfl) (T.n_isinstance) (m_var (i := 0) rfl (by first | exact Or.inl rfl | exact Or.inr (Or.inl rfl) | exact Or.inr (Or.inr rfl)) rfl rfl) (by rfl) (T.n_int) (by decide +kernel) (by decide +kernel) (by decide +kernel) (by rfl) (by rfl) (by rfl)) (pe_one (m_not (m_isi (T := "bool") (by rfl) (T.n_isinstance) (m_var (i := 0) rfl (by first | exact Or.inl rfl | exact Or.inr (Or.inl rfl) | exact Or.inr (Or.inr rfl)) rfl rfl) (by rfl) (T.n_bool) (by decide +kernel) (by decide +kernel) (by decide +kernel) (by rfl) (by rfl) (by rfl)))))))
theorem sc_is_between : FnScope ["low", "value", "high"] ["low", "value", "high"] (defScope s_is_between) := ⟨rfl, rfl, rfl, by decide +kernel, rfl, by decide +kernel, by decide +kernel⟩
theorem ok_is_between {f : Addr} {fd : FuncData} (Fn : Fun K "is_between" "is_between" s_is_between f fd) (T : Bi P K C mg)
    (c_is_integer : CalM P w K mg base C 1 "is_integer" s_is_integer ["value"] F_is_integer) :
    FnM P w K mg base C 2 f fd ["low", "value", "high"] F_is_between := by
  rw [E_is_between]
  refine FnM.pure (fn_mkG finOk Fn sc_is_between rfl fun cdv A outer s H E hr hgd => ?_)
  exact (ms_one (ms_ret (m_and (g_call c_is_integer hr hgd (takes_of rfl rfl rfl rfl) (fun _ _ F1 => bi_is_integer F1) (m_aCons (m_var (i := 1) rfl (by first | exact Or.inl rfl | exact Or.inr (Or.inl rfl) | exact Or.inr (Or.inr rfl)) rfl rfl) m_aNil rfl) (by first | decide | omega | (simp only [Nat.add_eq] <;> omega))) (pe_one (m_chain om_le om_le (m_var (i := 0) rfl (by first | exact Or.inl rfl | exact Or.inr (Or.inl rfl) | exact Or.inr (Or.inr rfl)) rfl rfl) (m_var (i := 1) rfl (by first | exact Or.inl rfl | exact Or.inr (Or.inl rfl) | exact Or.inr (Or.inr rfl)) rfl rfl) (m_var (i := 2) rfl (by first | exact Or.inl rfl | exact Or.inr (Or.inl rfl) | exact Or.inr (Or.inr rfl)) rfl rfl) rfl)))))
theorem sc_is_chart : FnScope ["value", "place"] ["value"] (defScope s_is_chart) := ⟨rfl, rfl, rfl, by decide +kernel, rfl, by decide +kernel, by decide +kernel⟩
theorem ok_is_chart {f : Addr} {fd : FuncData} (Fn : Fun K "is_chart" "is_chart" s_is_chart f fd) (T : Bi P K C mg)
    (c_is_between : CalM P w K mg base C 2 "is_between" s_is_between ["low", "value", "high"] F_is_between) :
    FnM P w K mg base C 3 f fd ["value"] F_is_chart := by
  rw [E_is_chart]
  refine FnM.pure (fn_mkG finOk Fn sc_is_chart rfl fun cdv A outer s H E hr hgd => ?_)
  exact (ms_cons (ms_if (PW.pt (m_orT (m_notT (m_valT (m_isi (T := "tuple") (by rfl) (T.n_isinstance) (m_var (i := 0) rfl (by first | exact Or.inl rfl | exact Or.inr (Or.inl rfl) | exact Or.inr (Or.inr rfl)) rfl rfl) (by rfl) (T.n_tuple) (by decide +kernel) (by decide +kernel) (by decide +kernel) (by rfl) (by rfl) (by rfl)) (fun _ => rfl))) (pw_or1 (m_notT (m_chainT om_le om_le m_int (m_lenV (by rfl) (T.n_len) (m_var (i := 0) rfl (by first | exact Or.inl rfl | exact Or.inr (Or.inl rfl) | exact Or.inr (Or.inr rfl)) rfl rfl) (by rfl) (by rfl)) (m_gint (by rfl) T.c_MOST_PLACES) rfl))))) (ms_one (ms_ret m_bl)) ms_nil)
    (ms_one (ms_ret (m_all (by rfl) (by rfl) (T.n_all) (pe_lL (m_lcE rfl sc_is_chart.nd (mi_seq (m_var (i := 0) rfl (by first | exact Or.inl rfl | exact Or.inr (Or.inl rfl) | exact Or.inr (Or.inr rfl)) rfl rfl)) (blk_of ["value", "place"] (defScope s_is_chart) [("place", 1)] rfl rfl ⟨rfl, by decide +kernel, by decide +kernel, by decide +kernel, by decide +kernel⟩) (by decide) (fun _ _ _ _ _ => (mg_name (i := 1) sc_is_chart.nd rfl (by first | exact Or.inl rfl | exact Or.inr rfl) (by first | exact Or.inl rfl | exact Or.inr rfl))) (fun _ _ _ _ _ => mts_nil) (fun _ _ _ _ _ => (g_call c_is_between hr hgd takes0 (fun _ _ F1 => bi_is_between F1) (m_aCons m_int (m_aCons (m_var (i := 1) rfl (by first | exact Or.inl rfl | exact Or.inr (Or.inl rfl) | exact Or.inr (Or.inr rfl)) rfl rfl) (m_aCons (m_op om_sub (m_lenV (by rfl) (T.n_len) (m_var (i := 0) rfl (by first | exact Or.inl rfl | exact Or.inr (Or.inl rfl) | exact Or.inr (Or.inr rfl)) rfl rfl) (by rfl) (by rfl)) m_int) m_aNil rfl) rfl) rfl) (by first | decide | omega | (simp only [Nat.add_eq] <;> omega)))) (fun _ => rfl))) (by rfl) (by rfl)))))
theorem sc_check_chart : FnScope ["value"] ["value"] (defScope s_check_chart) := ⟨rfl, rfl, rfl, by decide +kernel, rfl, by decide +kernel, by decide +kernel⟩
theorem ok_check_chart {f : Addr} {fd : FuncData} (Fn : Fun K "check_chart" "check_chart" s_check_chart f fd) (T : Bi P K C mg)
    (c_is_chart : CalM P w K mg base C 3 "is_chart" s_is_chart ["value"] F_is_chart) :
    FnM P w K mg base C 4 f fd ["value"] F_check_chart := by
  rw [E_check_chart]
  refine FnM.pure (fn_mkG finOk Fn sc_check_chart rfl fun cdv A outer s H E hr hgd => ?_)
  exact (ms_one (ms_if (m_notT (m_valT (g_call c_is_chart hr hgd (takes_of rfl rfl rfl rfl) (fun _ _ F1 => bi_is_chart F1) (m_aCons (m_var (i := 0) rfl (by first | exact Or.inl rfl | exact Or.inr (Or.inl rfl) | exact Or.inr (Or.inr rfl)) rfl rfl) m_aNil rfl) (by first | decide | omega | (simp only [Nat.add_eq] <;> omega))) (fun _ => rfl))) (ms_one (ms_raise rfl (takes_of rfl rfl rfl rfl) T.e_InvalidChart)) ms_nil))
theorem sc_text_of : FnScope ["chart", "place"] ["chart"] (defScope s_text_of) := ⟨rfl, rfl, rfl, by decide +kernel, rfl, by decide +kernel, by decide +kernel⟩
theorem ok_text_of {f : Addr} {fd : FuncData} (Fn : Fun K "text_of" "text_of" s_text_of f fd) (T : Bi P K C mg) :
    FnM P w K mg base C 1 f fd ["chart"] F_text_of := by
  rw [E_text_of]
  refine FnM.pure (fn_mkG finOk Fn sc_text_of rfl fun cdv A outer s H E hr hgd => ?_)
  exact (ms_one (ms_ret (m_join m_str (pe_qL (m_lcE rfl sc_text_of.nd (mi_seq (m_var (i := 0) rfl (by first | exact Or.inl rfl | exact Or.inr (Or.inl rfl) | exact Or.inr (Or.inr rfl)) rfl rfl)) (blk_of ["chart", "place"] (defScope s_text_of) [("place", 1)] rfl rfl ⟨rfl, by decide +kernel, by decide +kernel, by decide +kernel, by decide +kernel⟩) (by decide) (fun _ _ _ _ _ => (mg_name (i := 1) sc_text_of.nd rfl (by first | exact Or.inl rfl | exact Or.inr rfl) (by first | exact Or.inl rfl | exact Or.inr rfl))) (fun _ _ _ _ _ => mts_nil) (fun _ _ _ _ _ => (m_ixV (m_gstr (by rfl) T.s_DIGITS) (m_var (i := 1) rfl (by first | exact Or.inl rfl | exact Or.inr (Or.inl rfl) | exact Or.inr (Or.inr rfl)) rfl rfl) (fun _ _ => rfl))) (fun _ => rfl))) (by rfl) (fun h1 h2 h3 => pe_bm PySem.F.plainAttrs_str PySem.F.slot_str_join PySem.F.type_str_join h1 h2 h3))))
theorem sc_chart_text : FnScope ["chart"] ["chart"] (defScope s_chart_text) := ⟨rfl, rfl, rfl, by decide +kernel, rfl, by decide +kernel, by decide +kernel⟩
theorem ok_chart_text {f : Addr} {fd : FuncData} (Fn : Fun K "chart_text" "chart_text" s_chart_text f fd) (T : Bi P K C mg)
    (c_check_chart : CalM P w K mg base C 4 "check_chart" s_check_chart ["value"] F_check_chart)
    (c_text_of : CalM P w K mg base C 1 "text_of" s_text_of ["chart"] F_text_of) :
    FnM P w K mg base C 5 f fd ["chart"] F_chart_text := by
  rw [E_chart_text]
  refine FnM.pure (fn_mkG finOk Fn sc_chart_text rfl fun cdv A outer s H E hr hgd => ?_)
  exact (ms_cons (ms_expr (g_call c_check_chart hr hgd (takes_of rfl rfl rfl rfl) (fun _ _ F1 => bi_check_chart F1) (m_aCons (m_var (i := 0) rfl (by first | exact Or.inl rfl | exact Or.inr (Or.inl rfl) | exact Or.inr (Or.inr rfl)) rfl rfl) m_aNil rfl) (by first | decide | omega | (simp only [Nat.add_eq] <;> omega))) rfl)
    (ms_one (ms_ret (g_call c_text_of hr hgd (takes_of rfl rfl rfl rfl) (fun _ _ F1 => bi_text_of F1) (m_aCons (m_var (i := 0) rfl (by first | exact Or.inl rfl | exact Or.inr (Or.inl rfl) | exact Or.inr (Or.inr rfl)) rfl rfl) m_aNil rfl) (by first | decide | omega | (simp only [Nat.add_eq] <;> omega))))))
theorem sc_chart_told : FnScope ["text", "found", "at", "sign"] ["text"] (defScope s_chart_told) := ⟨rfl, rfl, rfl, by decide +kernel, rfl, by decide +kernel, by decide +kernel⟩
theorem ok_chart_told {f : Addr} {fd : FuncData} (Fn : Fun K "chart_told" "chart_told" s_chart_told f fd) (T : Bi P K C mg) :
    FnM P w K mg base C 3 f fd ["text"] F_chart_told := by
  rw [E_chart_told]
  refine FnM.pure (fn_mkG finOk Fn sc_chart_told rfl fun cdv A outer s H E hr hgd => ?_)
  exact (ms_cons (ms_if (PW.pt (m_orT (m_notT (m_valT (m_isi (T := "str") (by rfl) (T.n_isinstance) (m_var (i := 0) rfl (by first | exact Or.inl rfl | exact Or.inr (Or.inl rfl) | exact Or.inr (Or.inr rfl)) rfl rfl) (by rfl) (T.n_str) (by decide +kernel) (by decide +kernel) (by decide +kernel) (by rfl) (by rfl) (by rfl)) (fun _ => rfl))) (pw_or1 (m_cmpT (om_eq (hu64 hr)) (m_var (i := 0) rfl (by first | exact Or.inl rfl | exact Or.inr (Or.inl rfl) | exact Or.inr (Or.inr rfl)) rfl rfl) m_str rfl)))) (ms_one (ms_raiseV rfl (takes_of rfl rfl rfl rfl) T.v_InvalidText (hr.mono (by decide)) m_int)) ms_nil)
    (ms_cons (ms_for (passes_of rfl) rfl (mi_enumStr (by rfl) (T.n_enumerate) (m_var (i := 0) rfl (by first | exact Or.inl rfl | exact Or.inr (Or.inl rfl) | exact Or.inr (Or.inr rfl)) rfl rfl) (by rfl)) (mg_tup rfl (mgs_cons (mg_name (i := 2) sc_chart_told.nd rfl (by first | exact Or.inl rfl | exact Or.inr rfl) (by first | exact Or.inl rfl | exact Or.inr rfl)) (mgs_cons (mg_name (i := 3) sc_chart_told.nd rfl (by first | exact Or.inl rfl | exact Or.inr rfl) (by first | exact Or.inl rfl | exact Or.inr rfl)) mgs_nil rfl) rfl) rfl rfl) (ms_one (ms_if (PW.pt (m_orT (m_cmpT (om_nin (hu65 hr)) (m_var (i := 3) rfl (by first | exact Or.inl rfl | exact Or.inr (Or.inl rfl) | exact Or.inr (Or.inr rfl)) rfl rfl) (m_gstr (by rfl) T.s_DIGITS) rfl) (pw_or1 (m_cmpT om_ge (m_var (i := 2) rfl (by first | exact Or.inl rfl | exact Or.inr (Or.inl rfl) | exact Or.inr (Or.inr rfl)) rfl rfl) (m_gint (by rfl) T.c_MOST_PLACES) rfl)))) (ms_one (ms_raiseV rfl (takes_of rfl rfl rfl rfl) T.v_InvalidText (hr.mono (by decide)) (m_var (i := 2) rfl (by first | exact Or.inl rfl | exact Or.inr (Or.inl rfl) | exact Or.inr (Or.inr rfl)) rfl rfl))) ms_nil)) (fun h1 h2 h3 h4 h5 => ps_for h1 h2 h3 h4 h5))
    (ms_cons (ms_asg (m_tuple (by rfl) (T.n_tuple) (pe_qL (m_lcE rfl sc_chart_told.nd (mi_str (m_var (i := 0) rfl (by first | exact Or.inl rfl | exact Or.inr (Or.inl rfl) | exact Or.inr (Or.inr rfl)) rfl rfl)) (blk_of ["text", "found", "at", "sign"] (defScope s_chart_told) [("sign", 3)] rfl rfl ⟨rfl, by decide +kernel, by decide +kernel, by decide +kernel, by decide +kernel⟩) (by decide) (fun _ _ _ _ _ => (mg_name (i := 3) sc_chart_told.nd rfl (by first | exact Or.inl rfl | exact Or.inr rfl) (by first | exact Or.inl rfl | exact Or.inr rfl))) (fun _ _ _ _ _ => mts_nil) (fun _ _ _ _ _ => (m_methS mm_sindex (m_gstr (by rfl) T.s_DIGITS) (m_aCons (m_var (i := 3) rfl (by first | exact Or.inl rfl | exact Or.inr (Or.inl rfl) | exact Or.inr (Or.inr rfl)) rfl rfl) m_aNil rfl) (fun h1 h2 h3 => pe_bm PySem.F.plainAttrs_str PySem.F.slot_str_index PySem.F.type_str_index h1 h2 h3))) (fun _ => rfl))) (by rfl) (by rfl)) (mg_name (i := 1) sc_chart_told.nd rfl (by first | exact Or.inl rfl | exact Or.inr rfl) (by first | exact Or.inl rfl | exact Or.inr rfl)) rfl rfl rfl)
    (ms_cons (ms_if (m_cmpT om_ge (m_maxV (hu64 hr) (by rfl) (by rfl) (T.n_max) (m_var (i := 1) rfl (by first | exact Or.inl rfl | exact Or.inr (Or.inl rfl) | exact Or.inr (Or.inr rfl)) rfl rfl) (by rfl) (by rfl)) (m_lenV (by rfl) (T.n_len) (m_var (i := 1) rfl (by first | exact Or.inl rfl | exact Or.inr (Or.inl rfl) | exact Or.inr (Or.inr rfl)) rfl rfl) (by rfl) (by rfl)) rfl) (ms_one (ms_raiseV rfl (takes_of rfl rfl rfl rfl) T.v_InvalidText (hr.mono (by decide)) (m_lenV (by rfl) (T.n_len) (m_var (i := 0) rfl (by first | exact Or.inl rfl | exact Or.inr (Or.inl rfl) | exact Or.inr (Or.inr rfl)) rfl rfl) (by rfl) (by rfl)))) ms_nil)
    (ms_one (ms_ret (m_var (i := 1) rfl (by first | exact Or.inl rfl | exact Or.inr (Or.inl rfl) | exact Or.inr (Or.inr rfl)) rfl rfl)))))))
theorem sc__law_bent : FnScope ["_law_cup_here", "_law_text", "_law_turn", "_law_way", "_law_at", "_law_sign"] ["_law_cup_here", "_law_text"] (defScope s__law_bent) := ⟨rfl, rfl, rfl, by decide +kernel, rfl, by decide +kernel, by decide +kernel⟩
theorem ok__law_bent {f : Addr} {fd : FuncData} (Fn : Fun K "_law_bent" "_law_bent" s__law_bent f fd) (T : Bi P K C mg)
    (c__law_sip : CalM P w K mg base C 1 "_law_sip" s__law_sip ["_law_cup_here", "_law_many"] F__law_sip) :
    FnM P w K mg base C 2 f fd ["_law_cup_here", "_law_text"] F__law_bent := by
  rw [E__law_bent]
  refine FnM.cell (fn_mkG finOk Fn sc__law_bent rfl fun cdv A outer s H E hr hgd => ?_)
  exact (ms_cons (ms_for (passes_of rfl) rfl (mi_rg1 (by rfl) (T.n_range) (m_addV m_int (g_call c__law_sip hr hgd (takes_of rfl rfl rfl rfl) (fun _ _ F1 => bi__law_sip F1) (m_aCons (m_var (i := 0) rfl (by first | exact Or.inl rfl | exact Or.inr (Or.inl rfl) | exact Or.inr (Or.inr rfl)) rfl rfl) (m_aCons m_int m_aNil rfl) rfl) (by first | decide | omega | (simp only [Nat.add_eq] <;> omega)))) (by rfl) (by rfl)) (mg_name (i := 2) sc__law_bent.nd rfl (by first | exact Or.inl rfl | exact Or.inr rfl) (by first | exact Or.inl rfl | exact Or.inr rfl)) (ms_cons (ms_par rfl sc__law_bent.nd rfl rfl (by decide) rfl rfl (m_aCons (g_call c__law_sip hr hgd (takes_of rfl rfl rfl rfl) (fun _ _ F1 => bi__law_sip F1) (m_aCons (m_var (i := 0) rfl (by first | exact Or.inl rfl | exact Or.inr (Or.inl rfl) | exact Or.inr (Or.inr rfl)) rfl rfl) (m_aCons (m_addV (m_lenV (by rfl) (T.n_len) (m_var (i := 1) rfl (by first | exact Or.inl rfl | exact Or.inr (Or.inl rfl) | exact Or.inr (Or.inr rfl)) rfl rfl) (by rfl) (by rfl)) m_int) m_aNil rfl) rfl) (by first | decide | omega | (simp only [Nat.add_eq] <;> omega))) (m_aCons (m_ixV m_str (g_call c__law_sip hr hgd (takes_of rfl rfl rfl rfl) (fun _ _ F1 => bi__law_sip F1) (m_aCons (m_var (i := 0) rfl (by first | exact Or.inl rfl | exact Or.inr (Or.inl rfl) | exact Or.inr (Or.inr rfl)) rfl rfl) (m_aCons m_int m_aNil rfl) rfl) (by first | decide | omega | (simp only [Nat.add_eq] <;> omega))) (fun _ _ => rfl)) m_aNil rfl) rfl) rfl rfl)
    (ms_cons (ms_asg (g_call c__law_sip hr hgd (takes_of rfl rfl rfl rfl) (fun _ _ F1 => bi__law_sip F1) (m_aCons (m_var (i := 0) rfl (by first | exact Or.inl rfl | exact Or.inr (Or.inl rfl) | exact Or.inr (Or.inr rfl)) rfl rfl) (m_aCons m_int m_aNil rfl) rfl) (by first | decide | omega | (simp only [Nat.add_eq] <;> omega))) (mg_name (i := 3) sc__law_bent.nd rfl (by first | exact Or.inl rfl | exact Or.inr rfl) (by first | exact Or.inl rfl | exact Or.inr rfl)) rfl rfl rfl)
    (ms_one (ms_if (m_cmpT (om_eq (hu64 hr)) (m_var (i := 3) rfl (by first | exact Or.inl rfl | exact Or.inr (Or.inl rfl) | exact Or.inr (Or.inr rfl)) rfl rfl) m_int rfl) (ms_one (ms_asg (m_cut (m_var (i := 1) rfl (by first | exact Or.inl rfl | exact Or.inr (Or.inl rfl) | exact Or.inr (Or.inr rfl)) rfl rfl) m_oN (m_oS (m_var (i := 4) rfl (by first | exact Or.inl rfl | exact Or.inr (Or.inl rfl) | exact Or.inr (Or.inr rfl)) rfl rfl))) (mg_name (i := 1) sc__law_bent.nd rfl (by first | exact Or.inl rfl | exact Or.inr rfl) (by first | exact Or.inl rfl | exact Or.inr rfl)) rfl rfl rfl)) (ms_one (ms_if (m_cmpT (om_eq (hu64 hr)) (m_var (i := 3) rfl (by first | exact Or.inl rfl | exact Or.inr (Or.inl rfl) | exact Or.inr (Or.inr rfl)) rfl rfl) m_int rfl) (ms_one (ms_asg (m_addV (m_addV (m_cut (m_var (i := 1) rfl (by first | exact Or.inl rfl | exact Or.inr (Or.inl rfl) | exact Or.inr (Or.inr rfl)) rfl rfl) m_oN (m_oS (m_var (i := 4) rfl (by first | exact Or.inl rfl | exact Or.inr (Or.inl rfl) | exact Or.inr (Or.inr rfl)) rfl rfl))) (m_var (i := 5) rfl (by first | exact Or.inl rfl | exact Or.inr (Or.inl rfl) | exact Or.inr (Or.inr rfl)) rfl rfl)) (m_cut (m_var (i := 1) rfl (by first | exact Or.inl rfl | exact Or.inr (Or.inl rfl) | exact Or.inr (Or.inr rfl)) rfl rfl) (m_oS (m_var (i := 4) rfl (by first | exact Or.inl rfl | exact Or.inr (Or.inl rfl) | exact Or.inr (Or.inr rfl)) rfl rfl)) m_oN)) (mg_name (i := 1) sc__law_bent.nd rfl (by first | exact Or.inl rfl | exact Or.inr rfl) (by first | exact Or.inl rfl | exact Or.inr rfl)) rfl rfl rfl)) (ms_one (ms_if (m_cmpT (om_eq (hu64 hr)) (m_var (i := 3) rfl (by first | exact Or.inl rfl | exact Or.inr (Or.inl rfl) | exact Or.inr (Or.inr rfl)) rfl rfl) m_int rfl) (ms_one (ms_asg (m_addV (m_cut (m_var (i := 1) rfl (by first | exact Or.inl rfl | exact Or.inr (Or.inl rfl) | exact Or.inr (Or.inr rfl)) rfl rfl) m_oN (m_oS (m_var (i := 4) rfl (by first | exact Or.inl rfl | exact Or.inr (Or.inl rfl) | exact Or.inr (Or.inr rfl)) rfl rfl))) (m_cut (m_var (i := 1) rfl (by first | exact Or.inl rfl | exact Or.inr (Or.inl rfl) | exact Or.inr (Or.inr rfl)) rfl rfl) (m_oS (m_addV (m_var (i := 4) rfl (by first | exact Or.inl rfl | exact Or.inr (Or.inl rfl) | exact Or.inr (Or.inr rfl)) rfl rfl) m_int)) m_oN)) (mg_name (i := 1) sc__law_bent.nd rfl (by first | exact Or.inl rfl | exact Or.inr rfl) (by first | exact Or.inl rfl | exact Or.inr rfl)) rfl rfl rfl)) (ms_one (ms_asg (m_addV (m_addV (m_cut (m_var (i := 1) rfl (by first | exact Or.inl rfl | exact Or.inr (Or.inl rfl) | exact Or.inr (Or.inr rfl)) rfl rfl) m_oN (m_oS (m_var (i := 4) rfl (by first | exact Or.inl rfl | exact Or.inr (Or.inl rfl) | exact Or.inr (Or.inr rfl)) rfl rfl))) (m_var (i := 5) rfl (by first | exact Or.inl rfl | exact Or.inr (Or.inl rfl) | exact Or.inr (Or.inr rfl)) rfl rfl)) (m_cut (m_var (i := 1) rfl (by first | exact Or.inl rfl | exact Or.inr (Or.inl rfl) | exact Or.inr (Or.inr rfl)) rfl rfl) (m_oS (m_addV (m_var (i := 4) rfl (by first | exact Or.inl rfl | exact Or.inr (Or.inl rfl) | exact Or.inr (Or.inr rfl)) rfl rfl) m_int)) m_oN)) (mg_name (i := 1) sc__law_bent.nd rfl (by first | exact Or.inl rfl | exact Or.inr rfl) (by first | exact Or.inl rfl | exact Or.inr rfl)) rfl rfl rfl)))))))))) (fun h1 h2 h3 h4 h5 => ps_for h1 h2 h3 h4 h5))
    (ms_one (ms_ret (m_var (i := 1) rfl (by first | exact Or.inl rfl | exact Or.inr (Or.inl rfl) | exact Or.inr (Or.inr rfl)) rfl rfl))))
theorem sc__law_told : FnScope ["_law_value", "_law_found", "e"] ["_law_value"] (defScope s__law_told) := ⟨rfl, rfl, rfl, by decide +kernel, rfl, by decide +kernel, by decide +kernel⟩
theorem ok__law_told {f : Addr} {fd : FuncData} (Fn : Fun K "_law_told" "_law_told" s__law_told f fd) (T : Bi P K C mg)
    (c_chart_told : CalM P w K mg base C 3 "chart_told" s_chart_told ["text"] F_chart_told) :
    FnM P w K mg base C 4 f fd ["_law_value"] F__law_told := by
  rw [E__law_told]
  refine FnM.pure (fn_mkG finOk Fn sc__law_told rfl fun cdv A outer s H E hr hgd => ?_)
  exact (ms_cons (ms_asg m_str (mg_name (i := 1) sc__law_told.nd rfl (by first | exact Or.inl rfl | exact Or.inr rfl) (by first | exact Or.inl rfl | exact Or.inr rfl)) rfl rfl rfl)
    (ms_cons (ms_tryA rfl rfl sc__law_told.nd (takes_of rfl rfl rfl rfl) T.xt (fun _ _ _ tk po => (ms_one (ms_asg (m_tup (m_aCons m_non (m_aCons (g_callK0 (ks := ["text"]) c_chart_told hr hgd tk (fun _ _ F1 => kw_0 F1) (m_kCons (m_var (i := 0) rfl (by first | exact Or.inl rfl | exact Or.inr (Or.inl rfl) | exact Or.inr (Or.inr rfl)) rfl rfl) m_kNil) (aCons_len aNil_len) (hjk := by first | decide | omega)) m_aNil rfl) rfl)) (mg_name (i := 1) sc__law_told.nd rfl (by first | exact Or.inl rfl | exact Or.inr rfl) (by first | exact Or.inl rfl | exact Or.inr rfl)) rfl rfl rfl))) (.cons ⟨rfl, by decide +kernel, .inl T.h_InvalidText⟩ ⟨rfl, rfl⟩ (fun x a oe cls d pn hz hf => pss_one (x_asg (x_tup (x_cons (x_fld T.f_InvalidText.1 T.f_InvalidText.2.1 T.f_InvalidText.2.2 hz hf rfl (by first | exact Or.inl rfl | exact Or.inr (Or.inl rfl) | exact Or.inr (Or.inr rfl)) rfl rfl) (x_cons (x_pe m_non) x_nil))) (mg_name (i := 1) sc__law_told.nd rfl (by first | exact Or.inl rfl | exact Or.inr rfl) (by first | exact Or.inl rfl | exact Or.inr rfl)))) (.cons ⟨rfl, by decide +kernel, .inl T.h_NextError⟩ trivial (fun _ _ _ _ _ _ _ _ => x_ps ((ms_one (ms_asg m_str (mg_name (i := 1) sc__law_told.nd rfl (by first | exact Or.inl rfl | exact Or.inr rfl) (by first | exact Or.inl rfl | exact Or.inr rfl)) rfl rfl rfl)))) .nil)))
    (ms_one (ms_ret (m_var (i := 1) rfl (by first | exact Or.inl rfl | exact Or.inr (Or.inl rfl) | exact Or.inr (Or.inr rfl)) rfl rfl)))))
theorem sc__law_read : FnScope ["_law_text", "_law_most", "_law_many", "_law_reach", "_law_sign"] ["_law_text"] (defScope s__law_read) := ⟨rfl, rfl, rfl, by decide +kernel, rfl, by decide +kernel, by decide +kernel⟩
theorem ok__law_read {f : Addr} {fd : FuncData} (Fn : Fun K "_law_read" "_law_read" s__law_read f fd) (T : Bi P K C mg) :
    FnM P w K mg base C 1 f fd ["_law_text"] F__law_read := by
  rw [E__law_read]
  refine FnM.pure (fn_mkG finOk Fn sc__law_read rfl fun cdv A outer s H E hr hgd => ?_)
  exact (ms_cons (ms_asg m_int (mg_name (i := 1) sc__law_read.nd rfl (by first | exact Or.inl rfl | exact Or.inr rfl) (by first | exact Or.inl rfl | exact Or.inr rfl)) rfl rfl rfl)
    (ms_cons (ms_for (passes_of rfl) rfl (mi_rg2 (by rfl) (T.n_range) m_int m_int (by rfl) (by rfl) (by rfl) (by rfl)) (mg_name (i := 2) sc__law_read.nd rfl (by first | exact Or.inl rfl | exact Or.inr rfl) (by first | exact Or.inl rfl | exact Or.inr rfl)) (ms_cons (ms_asg m_int (mg_name (i := 3) sc__law_read.nd rfl (by first | exact Or.inl rfl | exact Or.inr rfl) (by first | exact Or.inl rfl | exact Or.inr rfl)) rfl rfl rfl)
    (ms_cons (ms_while (passes_of rfl) (PW.pt (m_andT (m_cmpT (om_lt (hu0 hr)) (m_var (i := 3) rfl (by first | exact Or.inl rfl | exact Or.inr (Or.inl rfl) | exact Or.inr (Or.inr rfl)) rfl rfl) (m_lenV (by rfl) (T.n_len) (m_var (i := 0) rfl (by first | exact Or.inl rfl | exact Or.inr (Or.inl rfl) | exact Or.inr (Or.inr rfl)) rfl rfl) (by rfl) (by rfl)) rfl) (m_andT (m_cmpT (om_lt (hu0 hr)) (m_var (i := 3) rfl (by first | exact Or.inl rfl | exact Or.inr (Or.inl rfl) | exact Or.inr (Or.inr rfl)) rfl rfl) (m_var (i := 2) rfl (by first | exact Or.inl rfl | exact Or.inr (Or.inl rfl) | exact Or.inr (Or.inr rfl)) rfl rfl) rfl) (pw_and1 (m_cmpT (om_in (hu65 hr)) (m_ixV (m_var (i := 0) rfl (by first | exact Or.inl rfl | exact Or.inr (Or.inl rfl) | exact Or.inr (Or.inr rfl)) rfl rfl) (m_var (i := 3) rfl (by first | exact Or.inl rfl | exact Or.inr (Or.inl rfl) | exact Or.inr (Or.inr rfl)) rfl rfl) (fun _ _ => rfl)) (m_cut m_str m_oN (m_oS (m_var (i := 2) rfl (by first | exact Or.inl rfl | exact Or.inr (Or.inl rfl) | exact Or.inr (Or.inr rfl)) rfl rfl))) rfl))))) (ms_one (ms_asg (m_addV (m_var (i := 3) rfl (by first | exact Or.inl rfl | exact Or.inr (Or.inl rfl) | exact Or.inr (Or.inr rfl)) rfl rfl) m_int) (mg_name (i := 3) sc__law_read.nd rfl (by first | exact Or.inl rfl | exact Or.inr rfl) (by first | exact Or.inl rfl | exact Or.inr rfl)) rfl rfl rfl)))
    (ms_cons (ms_asg (m_max2 (by rfl) (by rfl) (T.n_max) (m_var (i := 1) rfl (by first | exact Or.inl rfl | exact Or.inr (Or.inl rfl) | exact Or.inr (Or.inr rfl)) rfl rfl) (m_var (i := 3) rfl (by first | exact Or.inl rfl | exact Or.inr (Or.inl rfl) | exact Or.inr (Or.inr rfl)) rfl rfl) (by rfl) (by rfl) (by rfl)) (mg_name (i := 1) sc__law_read.nd rfl (by first | exact Or.inl rfl | exact Or.inr rfl) (by first | exact Or.inl rfl | exact Or.inr rfl)) rfl rfl rfl)
    (ms_one (ms_if (PW.pt (m_andT (m_cmpT (om_eq (hu64 hr)) (m_var (i := 3) rfl (by first | exact Or.inl rfl | exact Or.inr (Or.inl rfl) | exact Or.inr (Or.inr rfl)) rfl rfl) (m_var (i := 2) rfl (by first | exact Or.inl rfl | exact Or.inr (Or.inl rfl) | exact Or.inr (Or.inr rfl)) rfl rfl) rfl) (pw_and1 (m_cmpT (om_eq (hu64 hr)) (m_lenV (by rfl) (T.n_len) (m_var (i := 0) rfl (by first | exact Or.inl rfl | exact Or.inr (Or.inl rfl) | exact Or.inr (Or.inr rfl)) rfl rfl) (by rfl) (by rfl)) (m_var (i := 2) rfl (by first | exact Or.inl rfl | exact Or.inr (Or.inl rfl) | exact Or.inr (Or.inr rfl)) rfl rfl) rfl)))) (ms_one (ms_ret (m_tup (m_aCons m_non (m_aCons (m_tuple (by rfl) (T.n_tuple) (pe_qL (m_lcE rfl sc__law_read.nd (mi_str (m_var (i := 0) rfl (by first | exact Or.inl rfl | exact Or.inr (Or.inl rfl) | exact Or.inr (Or.inr rfl)) rfl rfl)) (blk_of ["_law_text", "_law_most", "_law_many", "_law_reach", "_law_sign"] (defScope s__law_read) [("_law_sign", 4)] rfl rfl ⟨rfl, by decide +kernel, by decide +kernel, by decide +kernel, by decide +kernel⟩) (by decide) (fun _ _ _ _ _ => (mg_name (i := 4) sc__law_read.nd rfl (by first | exact Or.inl rfl | exact Or.inr rfl) (by first | exact Or.inl rfl | exact Or.inr rfl))) (fun _ _ _ _ _ => mts_nil) (fun _ _ _ _ _ => (m_methS mm_sindex m_str (m_aCons (m_var (i := 4) rfl (by first | exact Or.inl rfl | exact Or.inr (Or.inl rfl) | exact Or.inr (Or.inr rfl)) rfl rfl) m_aNil rfl) (fun h1 h2 h3 => pe_bm PySem.F.plainAttrs_str PySem.F.slot_str_index PySem.F.type_str_index h1 h2 h3))) (fun _ => rfl))) (by rfl) (by rfl)) m_aNil rfl) rfl)))) ms_nil))))) (fun h1 h2 h3 h4 h5 => ps_for h1 h2 h3 h4 h5))
    (ms_one (ms_ret (m_tup (m_aCons (m_var (i := 1) rfl (by first | exact Or.inl rfl | exact Or.inr (Or.inl rfl) | exact Or.inr (Or.inr rfl)) rfl rfl) (m_aCons m_non m_aNil rfl) rfl))))))
theorem sc__law_refused : FnScope ["_law_value", "_law_found"] ["_law_value"] (defScope s__law_refused) := ⟨rfl, rfl, rfl, by decide +kernel, rfl, by decide +kernel, by decide +kernel⟩
theorem ok__law_refused {f : Addr} {fd : FuncData} (Fn : Fun K "_law_refused" "_law_refused" s__law_refused f fd) (T : Bi P K C mg)
    (c_chart_text : CalM P w K mg base C 5 "chart_text" s_chart_text ["chart"] F_chart_text) :
    FnM P w K mg base C 6 f fd ["_law_value"] F__law_refused := by
  rw [E__law_refused]
  refine FnM.pure (fn_mkG finOk Fn sc__law_refused rfl fun cdv A outer s H E hr hgd => ?_)
  exact (ms_cons (ms_asg m_str (mg_name (i := 1) sc__law_refused.nd rfl (by first | exact Or.inl rfl | exact Or.inr rfl) (by first | exact Or.inl rfl | exact Or.inr rfl)) rfl rfl rfl)
    (ms_cons (ms_try rfl rfl (takes_of rfl rfl rfl rfl) T.xt (fun _ _ _ tk po => (ms_one (ms_expr (g_call c_chart_text hr hgd tk (fun _ _ F1 => bi_chart_text F1) (m_aCons (m_var (i := 0) rfl (by first | exact Or.inl rfl | exact Or.inr (Or.inl rfl) | exact Or.inr (Or.inr rfl)) rfl rfl) m_aNil rfl) (by first | decide | omega | (simp only [Nat.add_eq] <;> omega))) rfl))) (.cons ⟨rfl, by decide +kernel, .inl T.h_InvalidChart⟩ (fun _ _ _ => (ms_one (ms_asg m_str (mg_name (i := 1) sc__law_refused.nd rfl (by first | exact Or.inl rfl | exact Or.inr rfl) (by first | exact Or.inl rfl | exact Or.inr rfl)) rfl rfl rfl))) (.cons ⟨rfl, by decide +kernel, .inl T.h_NextError⟩ (fun _ _ _ => (ms_one (ms_asg m_str (mg_name (i := 1) sc__law_refused.nd rfl (by first | exact Or.inl rfl | exact Or.inr rfl) (by first | exact Or.inl rfl | exact Or.inr rfl)) rfl rfl rfl))) .nil)))
    (ms_one (ms_ret (m_var (i := 1) rfl (by first | exact Or.inl rfl | exact Or.inr (Or.inl rfl) | exact Or.inr (Or.inr rfl)) rfl rfl)))))
theorem sc__law_bad_chart : FnScope ["_law_cup_here", "_law_chart_here", "_law_far", "_law_odd", "_law_many", "_law_at"] ["_law_cup_here", "_law_chart_here"] (defScope s__law_bad_chart) := ⟨rfl, rfl, rfl, by decide +kernel, rfl, by decide +kernel, by decide +kernel⟩
theorem ok__law_bad_chart {f : Addr} {fd : FuncData} (Fn : Fun K "_law_bad_chart" "_law_bad_chart" s__law_bad_chart f fd) (T : Bi P K C mg)
    (c__law_sip : CalM P w K mg base C 1 "_law_sip" s__law_sip ["_law_cup_here", "_law_many"] F__law_sip) :
    FnM P w K mg base C 2 f fd ["_law_cup_here", "_law_chart_here"] F__law_bad_chart := by
  rw [E__law_bad_chart]
  refine FnM.cell (fn_mkG finOk Fn sc__law_bad_chart rfl fun cdv A outer s H E hr hgd => ?_)
  exact (ms_cons (ms_par rfl sc__law_bad_chart.nd rfl rfl (by decide) rfl rfl (m_aCons (m_lenV (by rfl) (T.n_len) (m_var (i := 1) rfl (by first | exact Or.inl rfl | exact Or.inr (Or.inl rfl) | exact Or.inr (Or.inr rfl)) rfl rfl) (by rfl) (by rfl)) (m_aCons (g_call c__law_sip hr hgd (takes_of rfl rfl rfl rfl) (fun _ _ F1 => bi__law_sip F1) (m_aCons (m_var (i := 0) rfl (by first | exact Or.inl rfl | exact Or.inr (Or.inl rfl) | exact Or.inr (Or.inr rfl)) rfl rfl) (m_aCons (m_lenV (by rfl) (T.n_len) (m_var (i := 1) rfl (by first | exact Or.inl rfl | exact Or.inr (Or.inl rfl) | exact Or.inr (Or.inr rfl)) rfl rfl) (by rfl) (by rfl)) m_aNil rfl) rfl) (by first | decide | omega | (simp only [Nat.add_eq] <;> omega))) m_aNil rfl) rfl) rfl rfl)
    (ms_cons (ms_if (m_cmpT (om_eq (hu64 hr)) (g_call c__law_sip hr hgd (takes_of rfl rfl rfl rfl) (fun _ _ F1 => bi__law_sip F1) (m_aCons (m_var (i := 0) rfl (by first | exact Or.inl rfl | exact Or.inr (Or.inl rfl) | exact Or.inr (Or.inr rfl)) rfl rfl) (m_aCons m_int m_aNil rfl) rfl) (by first | decide | omega | (simp only [Nat.add_eq] <;> omega))) m_int rfl) (ms_cons (ms_asg (m_fz (m_lst (m_aCons (m_fz (m_list (by rfl) (T.n_list) (pe_qV (m_var (i := 1) rfl (by first | exact Or.inl rfl | exact Or.inr (Or.inl rfl) | exact Or.inr (Or.inr rfl)) rfl rfl)) (by rfl) (by rfl))) (m_aCons m_non (m_aCons m_str (m_aCons (m_tup m_aNil) (m_aCons (m_var (i := 4) rfl (by first | exact Or.inl rfl | exact Or.inr (Or.inl rfl) | exact Or.inr (Or.inr rfl)) rfl rfl) (m_aCons (m_op om_mulV (m_tup (m_aCons m_int m_aNil rfl)) m_int) (m_aCons (m_fz (m_lst (m_aCons m_int m_aNil rfl))) (m_aCons (m_tup (m_aCons (m_var (i := 1) rfl (by first | exact Or.inl rfl | exact Or.inr (Or.inl rfl) | exact Or.inr (Or.inr rfl)) rfl rfl) m_aNil rfl)) (m_aCons m_bl (m_aCons (m_tup (m_aCons m_non m_aNil rfl)) (m_aCons (m_tup (m_aCons m_str m_aNil rfl)) m_aNil rfl) rfl) rfl) rfl) rfl) rfl) rfl) rfl) rfl) rfl) rfl))) (mg_name (i := 3) sc__law_bad_chart.nd rfl (by first | exact Or.inl rfl | exact Or.inr rfl) (by first | exact Or.inl rfl | exact Or.inr rfl)) rfl rfl rfl)
    (ms_one (ms_ret (m_ixV (m_var (i := 3) rfl (by first | exact Or.inl rfl | exact Or.inr (Or.inl rfl) | exact Or.inr (Or.inr rfl)) rfl rfl) (g_call c__law_sip hr hgd (takes_of rfl rfl rfl rfl) (fun _ _ F1 => bi__law_sip F1) (m_aCons (m_var (i := 0) rfl (by first | exact Or.inl rfl | exact Or.inr (Or.inl rfl) | exact Or.inr (Or.inr rfl)) rfl rfl) (m_aCons m_int m_aNil rfl) rfl) (by first | decide | omega | (simp only [Nat.add_eq] <;> omega))) (fun _ _ => rfl))))) ms_nil)
    (ms_cons (ms_asg (m_fz (m_lst (m_aCons (m_addV (m_addV (m_var (i := 4) rfl (by first | exact Or.inl rfl | exact Or.inr (Or.inl rfl) | exact Or.inr (Or.inr rfl)) rfl rfl) m_int) (g_call c__law_sip hr hgd (takes_of rfl rfl rfl rfl) (fun _ _ F1 => bi__law_sip F1) (m_aCons (m_var (i := 0) rfl (by first | exact Or.inl rfl | exact Or.inr (Or.inl rfl) | exact Or.inr (Or.inr rfl)) rfl rfl) (m_aCons m_int m_aNil rfl) rfl) (by first | decide | omega | (simp only [Nat.add_eq] <;> omega)))) (m_aCons (m_op om_sub (m_neg m_int) (g_call c__law_sip hr hgd (takes_of rfl rfl rfl rfl) (fun _ _ F1 => bi__law_sip F1) (m_aCons (m_var (i := 0) rfl (by first | exact Or.inl rfl | exact Or.inr (Or.inl rfl) | exact Or.inr (Or.inr rfl)) rfl rfl) (m_aCons m_int m_aNil rfl) rfl) (by first | decide | omega | (simp only [Nat.add_eq] <;> omega)))) (m_aCons (m_addV (m_op om_mulV m_int (g_call c__law_sip hr hgd (takes_of rfl rfl rfl rfl) (fun _ _ F1 => bi__law_sip F1) (m_aCons (m_var (i := 0) rfl (by first | exact Or.inl rfl | exact Or.inr (Or.inl rfl) | exact Or.inr (Or.inr rfl)) rfl rfl) (m_aCons (m_var (i := 4) rfl (by first | exact Or.inl rfl | exact Or.inr (Or.inl rfl) | exact Or.inr (Or.inr rfl)) rfl rfl) m_aNil rfl) rfl) (by first | decide | omega | (simp only [Nat.add_eq] <;> omega)))) m_int) m_aNil rfl) rfl) rfl))) (mg_name (i := 2) sc__law_bad_chart.nd rfl (by first | exact Or.inl rfl | exact Or.inr rfl) (by first | exact Or.inl rfl | exact Or.inr rfl)) rfl rfl rfl)
    (ms_cons (ms_asg (m_ixV (m_addV (m_fz (m_lst (m_aCons (m_var (i := 4) rfl (by first | exact Or.inl rfl | exact Or.inr (Or.inl rfl) | exact Or.inr (Or.inr rfl)) rfl rfl) (m_aCons (m_neg m_int) (m_aCons m_bl (m_aCons m_bl (m_aCons m_non (m_aCons m_str (m_aCons (m_tup (m_aCons m_int m_aNil rfl)) (m_aCons (m_fz (m_lst (m_aCons m_int m_aNil rfl))) (m_aCons (m_op om_pow m_int m_int) (m_aCons (m_addV (m_var (i := 4) rfl (by first | exact Or.inl rfl | exact Or.inr (Or.inl rfl) | exact Or.inr (Or.inr rfl)) rfl rfl) m_int) m_aNil rfl) rfl) rfl) rfl) rfl) rfl) rfl) rfl) rfl) rfl))) (m_var (i := 2) rfl (by first | exact Or.inl rfl | exact Or.inr (Or.inl rfl) | exact Or.inr (Or.inr rfl)) rfl rfl)) (g_call c__law_sip hr hgd (takes_of rfl rfl rfl rfl) (fun _ _ F1 => bi__law_sip F1) (m_aCons (m_var (i := 0) rfl (by first | exact Or.inl rfl | exact Or.inr (Or.inl rfl) | exact Or.inr (Or.inr rfl)) rfl rfl) (m_aCons m_int m_aNil rfl) rfl) (by first | decide | omega | (simp only [Nat.add_eq] <;> omega))) (fun _ _ => rfl)) (mg_name (i := 3) sc__law_bad_chart.nd rfl (by first | exact Or.inl rfl | exact Or.inr rfl) (by first | exact Or.inl rfl | exact Or.inr rfl)) rfl rfl rfl)
    (ms_one (ms_ret (m_addV (m_addV (m_cut (m_var (i := 1) rfl (by first | exact Or.inl rfl | exact Or.inr (Or.inl rfl) | exact Or.inr (Or.inr rfl)) rfl rfl) m_oN (m_oS (m_var (i := 5) rfl (by first | exact Or.inl rfl | exact Or.inr (Or.inl rfl) | exact Or.inr (Or.inr rfl)) rfl rfl))) (m_tup (m_aCons (m_var (i := 3) rfl (by first | exact Or.inl rfl | exact Or.inr (Or.inl rfl) | exact Or.inr (Or.inr rfl)) rfl rfl) m_aNil rfl))) (m_cut (m_var (i := 1) rfl (by first | exact Or.inl rfl | exact Or.inr (Or.inl rfl) | exact Or.inr (Or.inr rfl)) rfl rfl) (m_oS (m_addV (m_var (i := 5) rfl (by first | exact Or.inl rfl | exact Or.inr (Or.inl rfl) | exact Or.inr (Or.inr rfl)) rfl rfl) m_int)) m_oN))))))))
theorem sc_law : FnScope ["_law_script", "_law_cell", "_law_cup_here", "_law_chart_here", "_law_text", "_law_odd", "_law_value"] ["_law_script"] (defScope s_law) := ⟨rfl, rfl, rfl, by decide +kernel, rfl, by decide +kernel, by decide +kernel⟩
theorem ok_law {f : Addr} {fd : FuncData} (Fn : Fun K "law" "law" s_law f fd) (T : Bi P K C mg)
    (c__law_cup : CalM P w K mg base C 1 "_law_cup" s__law_cup ["_law_cell"] F__law_cup)
    (c__law_chart : CalM P w K mg base C 3 "_law_chart" s__law_chart ["_law_cup_here", "_law_many"] F__law_chart)
    (c__law_sip : CalM P w K mg base C 1 "_law_sip" s__law_sip ["_law_cup_here", "_law_many"] F__law_sip)
    (c__law_written : CalM P w K mg base C 1 "_law_written" s__law_written ["_law_chart_here"] F__law_written)
    (c_chart_text : CalM P w K mg base C 5 "chart_text" s_chart_text ["chart"] F_chart_text)
    (c_chart_told : CalM P w K mg base C 3 "chart_told" s_chart_told ["text"] F_chart_told)
    (c__law_bent : CalM P w K mg base C 2 "_law_bent" s__law_bent ["_law_cup_here", "_law_text"] F__law_bent)
    (c__law_told : CalM P w K mg base C 4 "_law_told" s__law_told ["_law_value"] F__law_told)
    (c__law_read : CalM P w K mg base C 1 "_law_read" s__law_read ["_law_text"] F__law_read)
    (c__law_refused : CalM P w K mg base C 6 "_law_refused" s__law_refused ["_law_value"] F__law_refused)
    (c__law_bad_chart : CalM P w K mg base C 2 "_law_bad_chart" s__law_bad_chart ["_law_cup_here", "_law_chart_here"] F__law_bad_chart) :
    FnM P w K mg base C 7 f fd ["_law_script"] F_law := by
  rw [E_law]
  refine FnM.pure (fn_mkG finOk Fn sc_law rfl fun cdv A outer s H E hr hgd => ?_)
  exact (ms_cons (ms_for (passes_of rfl) rfl (mi_seq (m_addV (m_fz (m_lst (m_aCons m_int m_aNil rfl))) (m_cut (m_var (i := 0) rfl (by first | exact Or.inl rfl | exact Or.inr (Or.inl rfl) | exact Or.inr (Or.inr rfl)) rfl rfl) m_oN (m_oS m_int)))) (mg_name (i := 1) sc_law.nd rfl (by first | exact Or.inl rfl | exact Or.inr rfl) (by first | exact Or.inl rfl | exact Or.inr rfl)) (mss_gc (ms_cons (ms_asg (g_call c__law_cup hr hgd (takes_of rfl rfl rfl rfl) (fun _ _ F1 => bi__law_cup F1) (m_aCons (m_var (i := 1) rfl (by first | exact Or.inl rfl | exact Or.inr (Or.inl rfl) | exact Or.inr (Or.inr rfl)) rfl rfl) m_aNil rfl) (by first | decide | omega | (simp only [Nat.add_eq] <;> omega))) (mg_name (i := 2) sc_law.nd rfl (by first | exact Or.inl rfl | exact Or.inr rfl) (by first | exact Or.inl rfl | exact Or.inr rfl)) rfl rfl rfl)
    (ms_cons (ms_asg (g_call c__law_chart hr hgd (takes_of rfl rfl rfl rfl) (fun _ _ F1 => bi__law_chart F1) (m_aCons (m_var (i := 2) rfl (by first | exact Or.inl rfl | exact Or.inr (Or.inl rfl) | exact Or.inr (Or.inr rfl)) rfl rfl) (m_aCons (m_addV m_int (g_call c__law_sip hr hgd (takes_of rfl rfl rfl rfl) (fun _ _ F1 => bi__law_sip F1) (m_aCons (m_var (i := 2) rfl (by first | exact Or.inl rfl | exact Or.inr (Or.inl rfl) | exact Or.inr (Or.inr rfl)) rfl rfl) (m_aCons m_int m_aNil rfl) rfl) (by first | decide | omega | (simp only [Nat.add_eq] <;> omega)))) m_aNil rfl) rfl) (by first | decide | omega | (simp only [Nat.add_eq] <;> omega))) (mg_name (i := 3) sc_law.nd rfl (by first | exact Or.inl rfl | exact Or.inr rfl) (by first | exact Or.inl rfl | exact Or.inr rfl)) rfl rfl rfl)
    (ms_cons (ms_asg (g_call c__law_written hr hgd (takes_of rfl rfl rfl rfl) (fun _ _ F1 => bi__law_written F1) (m_aCons (m_var (i := 3) rfl (by first | exact Or.inl rfl | exact Or.inr (Or.inl rfl) | exact Or.inr (Or.inr rfl)) rfl rfl) m_aNil rfl) (by first | decide | omega | (simp only [Nat.add_eq] <;> omega))) (mg_name (i := 4) sc_law.nd rfl (by first | exact Or.inl rfl | exact Or.inr rfl) (by first | exact Or.inl rfl | exact Or.inr rfl)) rfl rfl rfl)
    (ms_cons (ms_if (m_cmpT (om_ne (hu64 hr)) (m_reprV hgd (hu80 hr) (by rfl) (T.n_repr) (m_fz (m_lst (m_aCons (g_call c_chart_text hr hgd (takes_of rfl rfl rfl rfl) (fun _ _ F1 => bi_chart_text F1) (m_aCons (m_var (i := 3) rfl (by first | exact Or.inl rfl | exact Or.inr (Or.inl rfl) | exact Or.inr (Or.inr rfl)) rfl rfl) m_aNil rfl) (by first | decide | omega | (simp only [Nat.add_eq] <;> omega))) (m_aCons (g_callK0 (ks := ["chart"]) c_chart_text hr hgd (takes_of rfl rfl rfl rfl) (fun _ _ F1 => kw_1 F1) (m_kCons (m_var (i := 3) rfl (by first | exact Or.inl rfl | exact Or.inr (Or.inl rfl) | exact Or.inr (Or.inr rfl)) rfl rfl) m_kNil) (aCons_len aNil_len) (hjk := by first | decide | omega)) m_aNil rfl) rfl))) (by rfl) (by rfl)) (m_reprV hgd (hu80 hr) (by rfl) (T.n_repr) (m_fz (m_lst (m_aCons (m_var (i := 4) rfl (by first | exact Or.inl rfl | exact Or.inr (Or.inl rfl) | exact Or.inr (Or.inr rfl)) rfl rfl) (m_aCons (m_var (i := 4) rfl (by first | exact Or.inl rfl | exact Or.inr (Or.inl rfl) | exact Or.inr (Or.inr rfl)) rfl rfl) m_aNil rfl) rfl))) (by rfl) (by rfl)) rfl) (ms_one (ms_ret m_bl)) ms_nil)
    (ms_cons (ms_if (PW.pt (m_orT (m_cmpT (om_ne (hu64 hr)) (m_reprV hgd (hu80 hr) (by rfl) (T.n_repr) (m_fz (m_lst (m_aCons (g_call c_chart_told hr hgd (takes_of rfl rfl rfl rfl) (fun _ _ F1 => bi_chart_told F1) (m_aCons (m_var (i := 4) rfl (by first | exact Or.inl rfl | exact Or.inr (Or.inl rfl) | exact Or.inr (Or.inr rfl)) rfl rfl) m_aNil rfl) (by first | decide | omega | (simp only [Nat.add_eq] <;> omega))) (m_aCons (g_call c_chart_told hr hgd (takes_of rfl rfl rfl rfl) (fun _ _ F1 => bi_chart_told F1) (m_aCons (g_call c_chart_text hr hgd (takes_of rfl rfl rfl rfl) (fun _ _ F1 => bi_chart_text F1) (m_aCons (m_var (i := 3) rfl (by first | exact Or.inl rfl | exact Or.inr (Or.inl rfl) | exact Or.inr (Or.inr rfl)) rfl rfl) m_aNil rfl) (by first | decide | omega | (simp only [Nat.add_eq] <;> omega))) m_aNil rfl) (by first | decide | omega | (simp only [Nat.add_eq] <;> omega))) m_aNil rfl) rfl))) (by rfl) (by rfl)) (m_reprV hgd (hu80 hr) (by rfl) (T.n_repr) (m_fz (m_lst (m_aCons (m_var (i := 3) rfl (by first | exact Or.inl rfl | exact Or.inr (Or.inl rfl) | exact Or.inr (Or.inr rfl)) rfl rfl) (m_aCons (m_var (i := 3) rfl (by first | exact Or.inl rfl | exact Or.inr (Or.inl rfl) | exact Or.inr (Or.inr rfl)) rfl rfl) m_aNil rfl) rfl))) (by rfl) (by rfl)) rfl) (pw_or1 (m_cmpT (om_ne (hu64 hr)) (g_call c_chart_told hr hgd (takes_of rfl rfl rfl rfl) (fun _ _ F1 => bi_chart_told F1) (m_aCons (m_var (i := 4) rfl (by first | exact Or.inl rfl | exact Or.inr (Or.inl rfl) | exact Or.inr (Or.inr rfl)) rfl rfl) m_aNil rfl) (by first | decide | omega | (simp only [Nat.add_eq] <;> omega))) (m_var (i := 3) rfl (by first | exact Or.inl rfl | exact Or.inr (Or.inl rfl) | exact Or.inr (Or.inr rfl)) rfl rfl) rfl)))) (ms_one (ms_ret m_bl)) ms_nil)
    (ms_cons (ms_asg (m_fz (m_lst (m_aCons m_str (m_aCons m_str (m_aCons m_str (m_aCons m_str (m_aCons m_str (m_aCons m_str (m_aCons m_str (m_aCons (m_op om_mulV m_str m_int) (m_aCons (m_op om_mulV m_str m_int) m_aNil rfl) rfl) rfl) rfl) rfl) rfl) rfl) rfl) rfl))) (mg_name (i := 5) sc_law.nd rfl (by first | exact Or.inl rfl | exact Or.inr rfl) (by first | exact Or.inl rfl | exact Or.inr rfl)) rfl rfl rfl)
    (ms_cons (ms_asg (m_addV (m_var (i := 5) rfl (by first | exact Or.inl rfl | exact Or.inr (Or.inl rfl) | exact Or.inr (Or.inr rfl)) rfl rfl) (m_fz (m_lst (m_aCons m_str (m_aCons m_str (m_aCons m_str (m_aCons m_str m_aNil rfl) rfl) rfl) rfl)))) (mg_name (i := 5) sc_law.nd rfl (by first | exact Or.inl rfl | exact Or.inr rfl) (by first | exact Or.inl rfl | exact Or.inr rfl)) rfl rfl rfl)
    (ms_cons (ms_asg (m_addV (m_var (i := 5) rfl (by first | exact Or.inl rfl | exact Or.inr (Or.inl rfl) | exact Or.inr (Or.inr rfl)) rfl rfl) (m_fz (m_lst (m_aCons (m_addV (m_var (i := 4) rfl (by first | exact Or.inl rfl | exact Or.inr (Or.inl rfl) | exact Or.inr (Or.inr rfl)) rfl rfl) m_str) (m_aCons (m_addV (m_var (i := 4) rfl (by first | exact Or.inl rfl | exact Or.inr (Or.inl rfl) | exact Or.inr (Or.inr rfl)) rfl rfl) m_str) (m_aCons (m_cut (m_var (i := 4) rfl (by first | exact Or.inl rfl | exact Or.inr (Or.inl rfl) | exact Or.inr (Or.inr rfl)) rfl rfl) m_oN (m_oS (m_neg m_int))) (m_aCons m_str (m_aCons (m_op om_mulV m_str m_int) (m_aCons (m_op om_mulV m_str m_int) (m_aCons m_str m_aNil rfl) rfl) rfl) rfl) rfl) rfl) rfl)))) (mg_name (i := 5) sc_law.nd rfl (by first | exact Or.inl rfl | exact Or.inr rfl) (by first | exact Or.inl rfl | exact Or.inr rfl)) rfl rfl rfl)
    (ms_cons (ms_for (passes_of rfl) rfl (mi_fresh (m_lst (m_aCons (m_var (i := 4) rfl (by first | exact Or.inl rfl | exact Or.inr (Or.inl rfl) | exact Or.inr (Or.inr rfl)) rfl rfl) (m_aCons (g_call c__law_bent hr hgd (takes_of rfl rfl rfl rfl) (fun _ _ F1 => bi__law_bent F1) (m_aCons (m_var (i := 2) rfl (by first | exact Or.inl rfl | exact Or.inr (Or.inl rfl) | exact Or.inr (Or.inr rfl)) rfl rfl) (m_aCons (m_var (i := 4) rfl (by first | exact Or.inl rfl | exact Or.inr (Or.inl rfl) | exact Or.inr (Or.inr rfl)) rfl rfl) m_aNil rfl) rfl) (by first | decide | omega | (simp only [Nat.add_eq] <;> omega))) (m_aCons (g_call c__law_bent hr hgd (takes_of rfl rfl rfl rfl) (fun _ _ F1 => bi__law_bent F1) (m_aCons (m_var (i := 2) rfl (by first | exact Or.inl rfl | exact Or.inr (Or.inl rfl) | exact Or.inr (Or.inr rfl)) rfl rfl) (m_aCons (m_var (i := 4) rfl (by first | exact Or.inl rfl | exact Or.inr (Or.inl rfl) | exact Or.inr (Or.inr rfl)) rfl rfl) m_aNil rfl) rfl) (by first | decide | omega | (simp only [Nat.add_eq] <;> omega))) (m_aCons (m_ixV (m_var (i := 5) rfl (by first | exact Or.inl rfl | exact Or.inr (Or.inl rfl) | exact Or.inr (Or.inr rfl)) rfl rfl) (g_call c__law_sip hr hgd (takes_of rfl rfl rfl rfl) (fun _ _ F1 => bi__law_sip F1) (m_aCons (m_var (i := 2) rfl (by first | exact Or.inl rfl | exact Or.inr (Or.inl rfl) | exact Or.inr (Or.inr rfl)) rfl rfl) (m_aCons m_int m_aNil rfl) rfl) (by first | decide | omega | (simp only [Nat.add_eq] <;> omega))) (fun _ _ => rfl)) m_aNil rfl) rfl) rfl) rfl))) (mg_name (i := 6) sc_law.nd rfl (by first | exact Or.inl rfl | exact Or.inr rfl) (by first | exact Or.inl rfl | exact Or.inr rfl)) (ms_one (ms_if (m_cmpT (om_ne (hu64 hr)) (m_reprV hgd (hu80 hr) (by rfl) (T.n_repr) (g_call c__law_told hr hgd (takes_of rfl rfl rfl rfl) (fun _ _ F1 => bi__law_told F1) (m_aCons (m_var (i := 6) rfl (by first | exact Or.inl rfl | exact Or.inr (Or.inl rfl) | exact Or.inr (Or.inr rfl)) rfl rfl) m_aNil rfl) (by first | decide | omega | (simp only [Nat.add_eq] <;> omega))) (by rfl) (by rfl)) (m_reprV hgd (hu80 hr) (by rfl) (T.n_repr) (g_call c__law_read hr hgd (takes_of rfl rfl rfl rfl) (fun _ _ F1 => bi__law_read F1) (m_aCons (m_var (i := 6) rfl (by first | exact Or.inl rfl | exact Or.inr (Or.inl rfl) | exact Or.inr (Or.inr rfl)) rfl rfl) m_aNil rfl) (by first | decide | omega | (simp only [Nat.add_eq] <;> omega))) (by rfl) (by rfl)) rfl) (ms_one (ms_ret m_bl)) ms_nil)) (fun h1 h2 h3 h4 h5 => ps_for h1 h2 h3 h4 h5))
    (ms_cons (ms_for (passes_of rfl) rfl (mi_fresh (m_lst (m_aCons m_non (m_aCons m_int (m_aCons (m_tup (m_aCons m_str m_aNil rfl)) (m_aCons (m_fz (m_lst (m_aCons m_str m_aNil rfl))) (m_aCons m_bl m_aNil rfl) rfl) rfl) rfl) rfl))) (mg_name (i := 6) sc_law.nd rfl (by first | exact Or.inl rfl | exact Or.inr rfl) (by first | exact Or.inl rfl | exact Or.inr rfl)) (ms_one (ms_if (m_cmpT (om_ne (hu64 hr)) (m_reprV hgd (hu80 hr) (by rfl) (T.n_repr) (g_call c__law_told hr hgd (takes_of rfl rfl rfl rfl) (fun _ _ F1 => bi__law_told F1) (m_aCons (m_var (i := 6) rfl (by first | exact Or.inl rfl | exact Or.inr (Or.inl rfl) | exact Or.inr (Or.inr rfl)) rfl rfl) m_aNil rfl) (by first | decide | omega | (simp only [Nat.add_eq] <;> omega))) (by rfl) (by rfl)) m_str rfl) (ms_one (ms_ret m_bl)) ms_nil)) (fun h1 h2 h3 h4 h5 => ps_for h1 h2 h3 h4 h5))
    (ms_one (ms_if (m_cmpT (om_ne (hu64 hr)) (g_call c__law_refused hr hgd (takes_of rfl rfl rfl rfl) (fun _ _ F1 => bi__law_refused F1) (m_aCons (g_call c__law_bad_chart hr hgd (takes_of rfl rfl rfl rfl) (fun _ _ F1 => bi__law_bad_chart F1) (m_aCons (m_var (i := 2) rfl (by first | exact Or.inl rfl | exact Or.inr (Or.inl rfl) | exact Or.inr (Or.inr rfl)) rfl rfl) (m_aCons (m_var (i := 3) rfl (by first | exact Or.inl rfl | exact Or.inr (Or.inl rfl) | exact Or.inr (Or.inr rfl)) rfl rfl) m_aNil rfl) rfl) (by first | decide | omega | (simp only [Nat.add_eq] <;> omega))) m_aNil rfl) (by first | decide | omega | (simp only [Nat.add_eq] <;> omega))) m_str rfl) (ms_one (ms_ret m_bl)) ms_nil))))))))))))) (fun h1 h2 h3 h4 h5 => ps_for h1 h2 h3 h4 h5))
    (ms_one (ms_ret m_bl)))
end
theorem all_mk {l : PySem.W.OpenLaw} {w : World} {K : PySem.W.Frag} {h : Heap} {mg : Str → Option Value} {fa : Addr} (X : K.In h) (G : h.Ns mainGlobals mg) (hfa : mg "law" = some (.ref fa))
  {f__law_cup : Addr} {od__law_cup an__law_cup : Option Addr} {sl__law_cup : Array (Option Value)} {oc__law_cup kV__law_cup dc__law_cup pm__law_cup cd__law_cup ct__law_cup : Value} {f__law_sip : Addr} {od__law_sip an__law_sip : Option Addr} {sl__law_sip : Array (Option Value)} {oc__law_sip kV__law_sip dc__law_sip pm__law_sip cd__law_sip ct__law_sip : Value} {f__law_row : Addr} {od__law_row an__law_row : Option Addr} {sl__law_row : Array (Option Value)} {oc__law_row kV__law_row dc__law_row pm__law_row cd__law_row ct__law_row : Value} {f__law_chart : Addr} {od__law_chart an__law_chart : Option Addr} {sl__law_chart : Array (Option Value)} {oc__law_chart kV__law_chart dc__law_chart pm__law_chart cd__law_chart ct__law_chart : Value} {f__law_written : Addr} {od__law_written an__law_written : Option Addr} {sl__law_written : Array (Option Value)} {oc__law_written kV__law_written dc__law_written pm__law_written cd__law_written ct__law_written : Value} {f_is_integer : Addr} {od_is_integer an_is_integer : Option Addr} {sl_is_integer : Array (Option Value)} {oc_is_integer kV_is_integer dc_is_integer pm_is_integer cd_is_integer ct_is_integer : Value} {f_is_between : Addr} {od_is_between an_is_between : Option Addr} {sl_is_between : Array (Option Value)} {oc_is_between kV_is_between dc_is_between pm_is_between cd_is_between ct_is_between : Value} {f_is_chart : Addr} {od_is_chart an_is_chart : Option Addr} {sl_is_chart : Array (Option Value)} {oc_is_chart kV_is_chart dc_is_chart pm_is_chart cd_is_chart ct_is_chart : Value} {f_check_chart : Addr} {od_check_chart an_check_chart : Option Addr} {sl_check_chart : Array (Option Value)} {oc_check_chart kV_check_chart dc_check_chart pm_check_chart cd_check_chart ct_check_chart : Value} {f_text_of : Addr} {od_text_of an_text_of : Option Addr} {sl_text_of : Array (Option Value)} {oc_text_of kV_text_of dc_text_of pm_text_of cd_text_of ct_text_of : Value} {f_chart_text : Addr} {od_chart_text an_chart_text : Option Addr} {sl_chart_text : Array (Option Value)} {oc_chart_text kV_chart_text dc_chart_text pm_chart_text cd_chart_text ct_chart_text : Value} {f_chart_told : Addr} {od_chart_told an_chart_told : Option Addr} {sl_chart_told : Array (Option Value)} {oc_chart_told kV_chart_told dc_chart_told pm_chart_told cd_chart_told ct_chart_told : Value} {f__law_bent : Addr} {od__law_bent an__law_bent : Option Addr} {sl__law_bent : Array (Option Value)} {oc__law_bent kV__law_bent dc__law_bent pm__law_bent cd__law_bent ct__law_bent : Value} {f__law_told : Addr} {od__law_told an__law_told : Option Addr} {sl__law_told : Array (Option Value)} {oc__law_told kV__law_told dc__law_told pm__law_told cd__law_told ct__law_told : Value} {f__law_read : Addr} {od__law_read an__law_read : Option Addr} {sl__law_read : Array (Option Value)} {oc__law_read kV__law_read dc__law_read pm__law_read cd__law_read ct__law_read : Value} {f__law_refused : Addr} {od__law_refused an__law_refused : Option Addr} {sl__law_refused : Array (Option Value)} {oc__law_refused kV__law_refused dc__law_refused pm__law_refused cd__law_refused ct__law_refused : Value} {f__law_bad_chart : Addr} {od__law_bad_chart an__law_bad_chart : Option Addr} {sl__law_bad_chart : Array (Option Value)} {oc__law_bad_chart kV__law_bad_chart dc__law_bad_chart pm__law_bad_chart cd__law_bad_chart ct__law_bad_chart : Value} {f_law : Addr} {od_law an_law : Option Addr} {sl_law : Array (Option Value)} {oc_law kV_law dc_law pm_law cd_law ct_law : Value} {q_NextError : Addr} {q_InvalidChart : Addr} {q_InvalidText : Addr} {t_DIGITS : Tok} {t_MOST_PLACES : Tok}
  (a__law_cup : PySem.W.nsIn K mainGlobals "_law_cup" = some (some (.ref f__law_cup)))
  (l__law_cup : K.lookup f__law_cup = some ⟨oc__law_cup, od__law_cup, .func (PySem.W.fnOf "_law_cup" "_law_cup" (defArgs s__law_cup) (defBody s__law_cup) (defScope s__law_cup) .none kV__law_cup dc__law_cup pm__law_cup an__law_cup cd__law_cup ct__law_cup), sl__law_cup⟩)
  (k__law_cup : PySem.W.codeIn K cd__law_cup "_law_cup" = true) (p__law_cup : PySem.W.keepIn K (.ref f__law_cup) = true)
  (a__law_sip : PySem.W.nsIn K mainGlobals "_law_sip" = some (some (.ref f__law_sip)))
  (l__law_sip : K.lookup f__law_sip = some ⟨oc__law_sip, od__law_sip, .func (PySem.W.fnOf "_law_sip" "_law_sip" (defArgs s__law_sip) (defBody s__law_sip) (defScope s__law_sip) .none kV__law_sip dc__law_sip pm__law_sip an__law_sip cd__law_sip ct__law_sip), sl__law_sip⟩)
  (k__law_sip : PySem.W.codeIn K cd__law_sip "_law_sip" = true) (p__law_sip : PySem.W.keepIn K (.ref f__law_sip) = true)
  (a__law_row : PySem.W.nsIn K mainGlobals "_law_row" = some (some (.ref f__law_row)))
  (l__law_row : K.lookup f__law_row = some ⟨oc__law_row, od__law_row, .func (PySem.W.fnOf "_law_row" "_law_row" (defArgs s__law_row) (defBody s__law_row) (defScope s__law_row) .none kV__law_row dc__law_row pm__law_row an__law_row cd__law_row ct__law_row), sl__law_row⟩)
  (k__law_row : PySem.W.codeIn K cd__law_row "_law_row" = true) (p__law_row : PySem.W.keepIn K (.ref f__law_row) = true)
  (a__law_chart : PySem.W.nsIn K mainGlobals "_law_chart" = some (some (.ref f__law_chart)))
  (l__law_chart : K.lookup f__law_chart = some ⟨oc__law_chart, od__law_chart, .func (PySem.W.fnOf "_law_chart" "_law_chart" (defArgs s__law_chart) (defBody s__law_chart) (defScope s__law_chart) .none kV__law_chart dc__law_chart pm__law_chart an__law_chart cd__law_chart ct__law_chart), sl__law_chart⟩)
  (k__law_chart : PySem.W.codeIn K cd__law_chart "_law_chart" = true) (p__law_chart : PySem.W.keepIn K (.ref f__law_chart) = true)
  (a__law_written : PySem.W.nsIn K mainGlobals "_law_written" = some (some (.ref f__law_written)))
  (l__law_written : K.lookup f__law_written = some ⟨oc__law_written, od__law_written, .func (PySem.W.fnOf "_law_written" "_law_written" (defArgs s__law_written) (defBody s__law_written) (defScope s__law_written) .none kV__law_written dc__law_written pm__law_written an__law_written cd__law_written ct__law_written), sl__law_written⟩)
  (k__law_written : PySem.W.codeIn K cd__law_written "_law_written" = true) (p__law_written : PySem.W.keepIn K (.ref f__law_written) = true)
  (a_is_integer : PySem.W.nsIn K mainGlobals "is_integer" = some (some (.ref f_is_integer)))
  (l_is_integer : K.lookup f_is_integer = some ⟨oc_is_integer, od_is_integer, .func (PySem.W.fnOf "is_integer" "is_integer" (defArgs s_is_integer) (defBody s_is_integer) (defScope s_is_integer) .none kV_is_integer dc_is_integer pm_is_integer an_is_integer cd_is_integer ct_is_integer), sl_is_integer⟩)
  (k_is_integer : PySem.W.codeIn K cd_is_integer "is_integer" = true) (p_is_integer : PySem.W.keepIn K (.ref f_is_integer) = true)
  (a_is_between : PySem.W.nsIn K mainGlobals "is_between" = some (some (.ref f_is_between)))
  (l_is_between : K.lookup f_is_between = some ⟨oc_is_between, od_is_between, .func (PySem.W.fnOf "is_between" "is_between" (defArgs s_is_between) (defBody s_is_between) (defScope s_is_between) .none kV_is_between dc_is_between pm_is_between an_is_between cd_is_between ct_is_between), sl_is_between⟩)
  (k_is_between : PySem.W.codeIn K cd_is_between "is_between" = true) (p_is_between : PySem.W.keepIn K (.ref f_is_between) = true)
  (a_is_chart : PySem.W.nsIn K mainGlobals "is_chart" = some (some (.ref f_is_chart)))
  (l_is_chart : K.lookup f_is_chart = some ⟨oc_is_chart, od_is_chart, .func (PySem.W.fnOf "is_chart" "is_chart" (defArgs s_is_chart) (defBody s_is_chart) (defScope s_is_chart) .none kV_is_chart dc_is_chart pm_is_chart an_is_chart cd_is_chart ct_is_chart), sl_is_chart⟩)
  (k_is_chart : PySem.W.codeIn K cd_is_chart "is_chart" = true) (p_is_chart : PySem.W.keepIn K (.ref f_is_chart) = true)
  (a_check_chart : PySem.W.nsIn K mainGlobals "check_chart" = some (some (.ref f_check_chart)))
  (l_check_chart : K.lookup f_check_chart = some ⟨oc_check_chart, od_check_chart, .func (PySem.W.fnOf "check_chart" "check_chart" (defArgs s_check_chart) (defBody s_check_chart) (defScope s_check_chart) .none kV_check_chart dc_check_chart pm_check_chart an_check_chart cd_check_chart ct_check_chart), sl_check_chart⟩)
  (k_check_chart : PySem.W.codeIn K cd_check_chart "check_chart" = true) (p_check_chart : PySem.W.keepIn K (.ref f_check_chart) = true)
  (a_text_of : PySem.W.nsIn K mainGlobals "text_of" = some (some (.ref f_text_of)))
  (l_text_of : K.lookup f_text_of = some ⟨oc_text_of, od_text_of, .func (PySem.W.fnOf "text_of" "text_of" (defArgs s_text_of) (defBody s_text_of) (defScope s_text_of) .none kV_text_of dc_text_of pm_text_of an_text_of cd_text_of ct_text_of), sl_text_of⟩)
  (k_text_of : PySem.W.codeIn K cd_text_of "text_of" = true) (p_text_of : PySem.W.keepIn K (.ref f_text_of) = true)
  (a_chart_text : PySem.W.nsIn K mainGlobals "chart_text" = some (some (.ref f_chart_text)))
  (l_chart_text : K.lookup f_chart_text = some ⟨oc_chart_text, od_chart_text, .func (PySem.W.fnOf "chart_text" "chart_text" (defArgs s_chart_text) (defBody s_chart_text) (defScope s_chart_text) .none kV_chart_text dc_chart_text pm_chart_text an_chart_text cd_chart_text ct_chart_text), sl_chart_text⟩)
  (k_chart_text : PySem.W.codeIn K cd_chart_text "chart_text" = true) (p_chart_text : PySem.W.keepIn K (.ref f_chart_text) = true)
  (a_chart_told : PySem.W.nsIn K mainGlobals "chart_told" = some (some (.ref f_chart_told)))
  (l_chart_told : K.lookup f_chart_told = some ⟨oc_chart_told, od_chart_told, .func (PySem.W.fnOf "chart_told" "chart_told" (defArgs s_chart_told) (defBody s_chart_told) (defScope s_chart_told) .none kV_chart_told dc_chart_told pm_chart_told an_chart_told cd_chart_told ct_chart_told), sl_chart_told⟩)
  (k_chart_told : PySem.W.codeIn K cd_chart_told "chart_told" = true) (p_chart_told : PySem.W.keepIn K (.ref f_chart_told) = true)
  (a__law_bent : PySem.W.nsIn K mainGlobals "_law_bent" = some (some (.ref f__law_bent)))
  (l__law_bent : K.lookup f__law_bent = some ⟨oc__law_bent, od__law_bent, .func (PySem.W.fnOf "_law_bent" "_law_bent" (defArgs s__law_bent) (defBody s__law_bent) (defScope s__law_bent) .none kV__law_bent dc__law_bent pm__law_bent an__law_bent cd__law_bent ct__law_bent), sl__law_bent⟩)
  (k__law_bent : PySem.W.codeIn K cd__law_bent "_law_bent" = true) (p__law_bent : PySem.W.keepIn K (.ref f__law_bent) = true)
  (a__law_told : PySem.W.nsIn K mainGlobals "_law_told" = some (some (.ref f__law_told)))
  (l__law_told : K.lookup f__law_told = some ⟨oc__law_told, od__law_told, .func (PySem.W.fnOf "_law_told" "_law_told" (defArgs s__law_told) (defBody s__law_told) (defScope s__law_told) .none kV__law_told dc__law_told pm__law_told an__law_told cd__law_told ct__law_told), sl__law_told⟩)
  (k__law_told : PySem.W.codeIn K cd__law_told "_law_told" = true) (p__law_told : PySem.W.keepIn K (.ref f__law_told) = true)
  (a__law_read : PySem.W.nsIn K mainGlobals "_law_read" = some (some (.ref f__law_read)))
  (l__law_read : K.lookup f__law_read = some ⟨oc__law_read, od__law_read, .func (PySem.W.fnOf "_law_read" "_law_read" (defArgs s__law_read) (defBody s__law_read) (defScope s__law_read) .none kV__law_read dc__law_read pm__law_read an__law_read cd__law_read ct__law_read), sl__law_read⟩)
  (k__law_read : PySem.W.codeIn K cd__law_read "_law_read" = true) (p__law_read : PySem.W.keepIn K (.ref f__law_read) = true)
  (a__law_refused : PySem.W.nsIn K mainGlobals "_law_refused" = some (some (.ref f__law_refused)))
  (l__law_refused : K.lookup f__law_refused = some ⟨oc__law_refused, od__law_refused, .func (PySem.W.fnOf "_law_refused" "_law_refused" (defArgs s__law_refused) (defBody s__law_refused) (defScope s__law_refused) .none kV__law_refused dc__law_refused pm__law_refused an__law_refused cd__law_refused ct__law_refused), sl__law_refused⟩)
  (k__law_refused : PySem.W.codeIn K cd__law_refused "_law_refused" = true) (p__law_refused : PySem.W.keepIn K (.ref f__law_refused) = true)
  (a__law_bad_chart : PySem.W.nsIn K mainGlobals "_law_bad_chart" = some (some (.ref f__law_bad_chart)))
  (l__law_bad_chart : K.lookup f__law_bad_chart = some ⟨oc__law_bad_chart, od__law_bad_chart, .func (PySem.W.fnOf "_law_bad_chart" "_law_bad_chart" (defArgs s__law_bad_chart) (defBody s__law_bad_chart) (defScope s__law_bad_chart) .none kV__law_bad_chart dc__law_bad_chart pm__law_bad_chart an__law_bad_chart cd__law_bad_chart ct__law_bad_chart), sl__law_bad_chart⟩)
  (k__law_bad_chart : PySem.W.codeIn K cd__law_bad_chart "_law_bad_chart" = true) (p__law_bad_chart : PySem.W.keepIn K (.ref f__law_bad_chart) = true)
  (a_law : PySem.W.nsIn K mainGlobals "law" = some (some (.ref f_law)))
  (l_law : K.lookup f_law = some ⟨oc_law, od_law, .func (PySem.W.fnOf "law" "law" (defArgs s_law) (defBody s_law) (defScope s_law) .none kV_law dc_law pm_law an_law cd_law ct_law), sl_law⟩)
  (k_law : PySem.W.codeIn K cd_law "law" = true) (p_law : PySem.W.keepIn K (.ref f_law) = true)
  (z_all : PySem.W.nsIn K mainGlobals "all" = some none)
  (z_bool : PySem.W.nsIn K mainGlobals "bool" = some none)
  (z_enumerate : PySem.W.nsIn K mainGlobals "enumerate" = some none)
  (z_int : PySem.W.nsIn K mainGlobals "int" = some none)
  (z_isinstance : PySem.W.nsIn K mainGlobals "isinstance" = some none)
  (z_len : PySem.W.nsIn K mainGlobals "len" = some none)
  (z_list : PySem.W.nsIn K mainGlobals "list" = some none)
  (z_max : PySem.W.nsIn K mainGlobals "max" = some none)
  (z_range : PySem.W.nsIn K mainGlobals "range" = some none)
  (z_repr : PySem.W.nsIn K mainGlobals "repr" = some none)
  (z_str : PySem.W.nsIn K mainGlobals "str" = some none)
  (z_super : PySem.W.nsIn K mainGlobals "super" = some none)
  (z_tuple : PySem.W.nsIn K mainGlobals "tuple" = some none)
  (g_MOST_PLACES : PySem.W.nsIn K mainGlobals "MOST_PLACES" = some (some (.int 10 t_MOST_PLACES)))
  (g_DIGITS : PySem.W.nsIn K mainGlobals "DIGITS" = some (some (.str "0123456789" t_DIGITS)))
  (xa_NextError : PySem.W.nsIn K mainGlobals "NextError" = some (some (.ref q_NextError)))
  (xa_InvalidChart : PySem.W.nsIn K mainGlobals "InvalidChart" = some (some (.ref q_InvalidChart)))
  (xa_InvalidText : PySem.W.nsIn K mainGlobals "InvalidText" = some (some (.ref q_InvalidText)))
  (xe_InvalidChart : PySem.W.excIn K q_InvalidChart bmV "ValueError.__new__" = true)
  (xk_InvalidChart : PySem.W.keepIn K (.ref q_InvalidChart) = true) (xb_InvalidChart : PySem.W.subIn K (.ref q_InvalidChart) (.type "BaseException") = some true) (xy_InvalidChart : PySem.W.typeIn K (.ref q_InvalidChart) = some (.type "type"))
  (xs_InvalidText : SupK l.prog K q_InvalidText "index")
  (xm_InvalidChart_NextError : PySem.W.exmOne K (.ref q_InvalidChart) (.ref q_NextError) = some true)
  (xm_InvalidChart_InvalidChart : PySem.W.exmOne K (.ref q_InvalidChart) (.ref q_InvalidChart) = some true)
  (xm_InvalidChart_InvalidText : PySem.W.exmOne K (.ref q_InvalidChart) (.ref q_InvalidText) = some false)
  (xm_InvalidText_NextError : PySem.W.exmOne K (.ref q_InvalidText) (.ref q_NextError) = some true)
  (xm_InvalidText_InvalidChart : PySem.W.exmOne K (.ref q_InvalidText) (.ref q_InvalidChart) = some false)
  (xm_InvalidText_InvalidText : PySem.W.exmOne K (.ref q_InvalidText) (.ref q_InvalidText) = some true) :
    ∃ (C : Cc) (fd : FuncData), (∀ (s : Shared) (v : Value), BindsTo s fd ⟨[v], []⟩ [("_law_script", v)]) ∧ ∀ base : Heap, K.In base → base.Ns mainGlobals mg → FnM l.prog w K mg base C 7 fa fd ["_law_script"] F_law := by
  have e := hfa.symm.trans (PySem.W.mg_of X G a_law)
  cases e
  have T : Bi l.prog K ⟨fun i => match i with | 0 => q_NextError | 1 => q_InvalidChart | 2 => q_InvalidText | _ => 0, fun i => match i with | 2 => "index" | _ => ""⟩ mg := ⟨PySem.W.mg_none_of X G z_all, PySem.W.mg_none_of X G z_bool, PySem.W.mg_none_of X G z_enumerate, PySem.W.mg_none_of X G z_int, PySem.W.mg_none_of X G z_isinstance, PySem.W.mg_none_of X G z_len, PySem.W.mg_none_of X G z_list, PySem.W.mg_none_of X G z_max, PySem.W.mg_none_of X G z_range, PySem.W.mg_none_of X G z_repr, PySem.W.mg_none_of X G z_str, PySem.W.mg_none_of X G z_super, PySem.W.mg_none_of X G z_tuple, ⟨_, PySem.W.mg_of X G g_MOST_PLACES⟩, ⟨_, PySem.W.mg_of X G g_DIGITS⟩, ⟨xe_InvalidChart, PySem.W.mg_of X G xa_InvalidChart, xk_InvalidChart, xb_InvalidChart, xy_InvalidChart⟩, xs_InvalidText.r (PySem.W.mg_none_of X G z_super) (PySem.W.mg_of X G xa_InvalidText), ⟨xs_InvalidText.xf, rfl, xs_InvalidText.no⟩, PySem.W.mg_of X G xa_NextError, PySem.W.mg_of X G xa_InvalidChart, PySem.W.mg_of X G xa_InvalidText, (.cons xm_InvalidChart_NextError (.cons xm_InvalidChart_InvalidChart (.cons xm_InvalidChart_InvalidText (.cons xm_InvalidText_NextError (.cons xm_InvalidText_InvalidChart (.cons xm_InvalidText_InvalidText .nil))))))⟩
  refine ⟨⟨fun i => match i with | 0 => q_NextError | 1 => q_InvalidChart | 2 => q_InvalidText | _ => 0, fun i => match i with | 2 => "index" | _ => ""⟩, PySem.W.fnOf "law" "law" (defArgs s_law) (defBody s_law) (defScope s_law) .none kV_law dc_law pm_law an_law cd_law ct_law, fun s v => .of_eq rfl, fun base _ _ => ?_⟩
  have c__law_cup : CalM l.prog w K mg base ⟨fun i => match i with | 0 => q_NextError | 1 => q_InvalidChart | 2 => q_InvalidText | _ => 0, fun i => match i with | 2 => "index" | _ => ""⟩ 1 "_law_cup" s__law_cup ["_law_cell"] F__law_cup := ⟨_, _, ok__law_cup (fun_mk (st := s__law_cup) l__law_cup k__law_cup p__law_cup) T , PySem.W.mg_of X G a__law_cup, fun_mk (st := s__law_cup) l__law_cup k__law_cup p__law_cup⟩
  have c__law_sip : CalM l.prog w K mg base ⟨fun i => match i with | 0 => q_NextError | 1 => q_InvalidChart | 2 => q_InvalidText | _ => 0, fun i => match i with | 2 => "index" | _ => ""⟩ 1 "_law_sip" s__law_sip ["_law_cup_here", "_law_many"] F__law_sip := ⟨_, _, ok__law_sip (fun_mk (st := s__law_sip) l__law_sip k__law_sip p__law_sip) T , PySem.W.mg_of X G a__law_sip, fun_mk (st := s__law_sip) l__law_sip k__law_sip p__law_sip⟩
  have c__law_row : CalM l.prog w K mg base ⟨fun i => match i with | 0 => q_NextError | 1 => q_InvalidChart | 2 => q_InvalidText | _ => 0, fun i => match i with | 2 => "index" | _ => ""⟩ 2 "_law_row" s__law_row ["_law_cup_here", "_law_many"] F__law_row := ⟨_, _, ok__law_row (fun_mk (st := s__law_row) l__law_row k__law_row p__law_row) T c__law_sip, PySem.W.mg_of X G a__law_row, fun_mk (st := s__law_row) l__law_row k__law_row p__law_row⟩
  have c__law_chart : CalM l.prog w K mg base ⟨fun i => match i with | 0 => q_NextError | 1 => q_InvalidChart | 2 => q_InvalidText | _ => 0, fun i => match i with | 2 => "index" | _ => ""⟩ 3 "_law_chart" s__law_chart ["_law_cup_here", "_law_many"] F__law_chart := ⟨_, _, ok__law_chart (fun_mk (st := s__law_chart) l__law_chart k__law_chart p__law_chart) T c__law_sip c__law_row, PySem.W.mg_of X G a__law_chart, fun_mk (st := s__law_chart) l__law_chart k__law_chart p__law_chart⟩
  have c__law_written : CalM l.prog w K mg base ⟨fun i => match i with | 0 => q_NextError | 1 => q_InvalidChart | 2 => q_InvalidText | _ => 0, fun i => match i with | 2 => "index" | _ => ""⟩ 1 "_law_written" s__law_written ["_law_chart_here"] F__law_written := ⟨_, _, ok__law_written (fun_mk (st := s__law_written) l__law_written k__law_written p__law_written) T , PySem.W.mg_of X G a__law_written, fun_mk (st := s__law_written) l__law_written k__law_written p__law_written⟩
  have c_is_integer : CalM l.prog w K mg base ⟨fun i => match i with | 0 => q_NextError | 1 => q_InvalidChart | 2 => q_InvalidText | _ => 0, fun i => match i with | 2 => "index" | _ => ""⟩ 1 "is_integer" s_is_integer ["value"] F_is_integer := ⟨_, _, ok_is_integer (fun_mk (st := s_is_integer) l_is_integer k_is_integer p_is_integer) T , PySem.W.mg_of X G a_is_integer, fun_mk (st := s_is_integer) l_is_integer k_is_integer p_is_integer⟩
  have c_is_between : CalM l.prog w K mg base ⟨fun i => match i with | 0 => q_NextError | 1 => q_InvalidChart | 2 => q_InvalidText | _ => 0, fun i => match i with | 2 => "index" | _ => ""⟩ 2 "is_between" s_is_between ["low", "value", "high"] F_is_between := ⟨_, _, ok_is_between (fun_mk (st := s_is_between) l_is_between k_is_between p_is_between) T c_is_integer, PySem.W.mg_of X G a_is_between, fun_mk (st := s_is_between) l_is_between k_is_between p_is_between⟩
  have c_is_chart : CalM l.prog w K mg base ⟨fun i => match i with | 0 => q_NextError | 1 => q_InvalidChart | 2 => q_InvalidText | _ => 0, fun i => match i with | 2 => "index" | _ => ""⟩ 3 "is_chart" s_is_chart ["value"] F_is_chart := ⟨_, _, ok_is_chart (fun_mk (st := s_is_chart) l_is_chart k_is_chart p_is_chart) T c_is_between, PySem.W.mg_of X G a_is_chart, fun_mk (st := s_is_chart) l_is_chart k_is_chart p_is_chart⟩
  have c_check_chart : CalM l.prog w K mg base ⟨fun i => match i with | 0 => q_NextError | 1 => q_InvalidChart | 2 => q_InvalidText | _ => 0, fun i => match i with | 2 => "index" | _ => ""⟩ 4 "check_chart" s_check_chart ["value"] F_check_chart := ⟨_, _, ok_check_chart (fun_mk (st := s_check_chart) l_check_chart k_check_chart p_check_chart) T c_is_chart, PySem.W.mg_of X G a_check_chart, fun_mk (st := s_check_chart) l_check_chart k_check_chart p_check_chart⟩
  have c_text_of : CalM l.prog w K mg base ⟨fun i => match i with | 0 => q_NextError | 1 => q_InvalidChart | 2 => q_InvalidText | _ => 0, fun i => match i with | 2 => "index" | _ => ""⟩ 1 "text_of" s_text_of ["chart"] F_text_of := ⟨_, _, ok_text_of (fun_mk (st := s_text_of) l_text_of k_text_of p_text_of) T , PySem.W.mg_of X G a_text_of, fun_mk (st := s_text_of) l_text_of k_text_of p_text_of⟩
  have c_chart_text : CalM l.prog w K mg base ⟨fun i => match i with | 0 => q_NextError | 1 => q_InvalidChart | 2 => q_InvalidText | _ => 0, fun i => match i with | 2 => "index" | _ => ""⟩ 5 "chart_text" s_chart_text ["chart"] F_chart_text := ⟨_, _, ok_chart_text (fun_mk (st := s_chart_text) l_chart_text k_chart_text p_chart_text) T c_check_chart c_text_of, PySem.W.mg_of X G a_chart_text, fun_mk (st := s_chart_text) l_chart_text k_chart_text p_chart_text⟩
  have c_chart_told : CalM l.prog w K mg base ⟨fun i => match i with | 0 => q_NextError | 1 => q_InvalidChart | 2 => q_InvalidText | _ => 0, fun i => match i with | 2 => "index" | _ => ""⟩ 3 "chart_told" s_chart_told ["text"] F_chart_told := ⟨_, _, ok_chart_told (fun_mk (st := s_chart_told) l_chart_told k_chart_told p_chart_told) T , PySem.W.mg_of X G a_chart_told, fun_mk (st := s_chart_told) l_chart_told k_chart_told p_chart_told⟩
  have c__law_bent : CalM l.prog w K mg base ⟨fun i => match i with | 0 => q_NextError | 1 => q_InvalidChart | 2 => q_InvalidText | _ => 0, fun i => match i with | 2 => "index" | _ => ""⟩ 2 "_law_bent" s__law_bent ["_law_cup_here", "_law_text"] F__law_bent := ⟨_, _, ok__law_bent (fun_mk (st := s__law_bent) l__law_bent k__law_bent p__law_bent) T c__law_sip, PySem.W.mg_of X G a__law_bent, fun_mk (st := s__law_bent) l__law_bent k__law_bent p__law_bent⟩
  have c__law_told : CalM l.prog w K mg base ⟨fun i => match i with | 0 => q_NextError | 1 => q_InvalidChart | 2 => q_InvalidText | _ => 0, fun i => match i with | 2 => "index" | _ => ""⟩ 4 "_law_told" s__law_told ["_law_value"] F__law_told := ⟨_, _, ok__law_told (fun_mk (st := s__law_told) l__law_told k__law_told p__law_told) T c_chart_told, PySem.W.mg_of X G a__law_told, fun_mk (st := s__law_told) l__law_told k__law_told p__law_told⟩
  have c__law_read : CalM l.prog w K mg base ⟨fun i => match i with | 0 => q_NextError | 1 => q_InvalidChart | 2 => q_InvalidText | _ => 0, fun i => match i with | 2 => "index" | _ => ""⟩ 1 "_law_read" s__law_read ["_law_text"] F__law_read := ⟨_, _, ok__law_read (fun_mk (st := s__law_read) l__law_read k__law_read p__law_read) T , PySem.W.mg_of X G a__law_read, fun_mk (st := s__law_read) l__law_read k__law_read p__law_read⟩
  have c__law_refused : CalM l.prog w K mg base ⟨fun i => match i with | 0 => q_NextError | 1 => q_InvalidChart | 2 => q_InvalidText | _ => 0, fun i => match i with | 2 => "index" | _ => ""⟩ 6 "_law_refused" s__law_refused ["_law_value"] F__law_refused := ⟨_, _, ok__law_refused (fun_mk (st := s__law_refused) l__law_refused k__law_refused p__law_refused) T c_chart_text, PySem.W.mg_of X G a__law_refused, fun_mk (st := s__law_refused) l__law_refused k__law_refused p__law_refused⟩
  have c__law_bad_chart : CalM l.prog w K mg base ⟨fun i => match i with | 0 => q_NextError | 1 => q_InvalidChart | 2 => q_InvalidText | _ => 0, fun i => match i with | 2 => "index" | _ => ""⟩ 2 "_law_bad_chart" s__law_bad_chart ["_law_cup_here", "_law_chart_here"] F__law_bad_chart := ⟨_, _, ok__law_bad_chart (fun_mk (st := s__law_bad_chart) l__law_bad_chart k__law_bad_chart p__law_bad_chart) T c__law_sip, PySem.W.mg_of X G a__law_bad_chart, fun_mk (st := s__law_bad_chart) l__law_bad_chart k__law_bad_chart p__law_bad_chart⟩
  exact ok_law (fun_mk (st := s_law) l_law k_law p_law) T c__law_cup c__law_chart c__law_sip c__law_written c_chart_text c_chart_told c__law_bent c__law_told c__law_read c__law_refused c__law_bad_chart
end LW

open PySem PySem.W PyProof.Rows in
set_option maxRecDepth 100000 in
set_option maxHeartbeats 0 in
theorem PySem.Challenge.cw_everynext_k02_texts_of_charts_holds : PySem.Challenge.rw_everynext_k02_texts_of_charts.Holds := by
  w_on; o_law; k_head; (case hw => w_witness2)
  k_fill
  refine MM.walk_M (l := PySem.Challenge.rw_everynext_k02_texts_of_charts) (k := 7) (x := "_law_script") (F := LW.F_law) (C := fun _ => ⟨fun _ => 0, fun _ => ""⟩) rfl rfl ⟨rfl, by decide, by decide⟩ (fun w h Y => PySem.W.kIn_of Y) ?F LW.holds
  case F =>
    intro w mg fa h KX G hmg
    refine' LW.all_mk KX G hmg ?a__law_cup ?l__law_cup ?k__law_cup ?p__law_cup ?a__law_sip ?l__law_sip ?k__law_sip ?p__law_sip ?a__law_row ?l__law_row ?k__law_row ?p__law_row ?a__law_chart ?l__law_chart ?k__law_chart ?p__law_chart ?a__law_written ?l__law_written ?k__law_written ?p__law_written ?a_is_integer ?l_is_integer ?k_is_integer ?p_is_integer ?a_is_between ?l_is_between ?k_is_between ?p_is_between ?a_is_chart ?l_is_chart ?k_is_chart ?p_is_chart ?a_check_chart ?l_check_chart ?k_check_chart ?p_check_chart ?a_text_of ?l_text_of ?k_text_of ?p_text_of ?a_chart_text ?l_chart_text ?k_chart_text ?p_chart_text ?a_chart_told ?l_chart_told ?k_chart_told ?p_chart_told ?a__law_bent ?l__law_bent ?k__law_bent ?p__law_bent ?a__law_told ?l__law_told ?k__law_told ?p__law_told ?a__law_read ?l__law_read ?k__law_read ?p__law_read ?a__law_refused ?l__law_refused ?k__law_refused ?p__law_refused ?a__law_bad_chart ?l__law_bad_chart ?k__law_bad_chart ?p__law_bad_chart ?a_law ?l_law ?k_law ?p_law ?z_all ?z_bool ?z_enumerate ?z_int ?z_isinstance ?z_len ?z_list ?z_max ?z_range ?z_repr ?z_str ?z_super ?z_tuple ?g_MOST_PLACES ?g_DIGITS ?xa_NextError ?xa_InvalidChart ?xa_InvalidText ?xe_InvalidChart ?xk_InvalidChart ?xb_InvalidChart ?xy_InvalidChart ?xs_InvalidText ?xm_InvalidChart_NextError ?xm_InvalidChart_InvalidChart ?xm_InvalidChart_InvalidText ?xm_InvalidText_NextError ?xm_InvalidText_InvalidChart ?xm_InvalidText_InvalidText
    (case a__law_cup => k_is)
    (case l__law_cup => k_is)
    (case k__law_cup => k_is)
    (case p__law_cup => k_is)
    (case a__law_sip => k_is)
    (case l__law_sip => k_is)
    (case k__law_sip => k_is)
    (case p__law_sip => k_is)
    (case a__law_row => k_is)
    (case l__law_row => k_is)
    (case k__law_row => k_is)
    (case p__law_row => k_is)
    (case a__law_chart => k_is)
    (case l__law_chart => k_is)
    (case k__law_chart => k_is)
    (case p__law_chart => k_is)
    (case a__law_written => k_is)
    (case l__law_written => k_is)
    (case k__law_written => k_is)
    (case p__law_written => k_is)
    (case a_is_integer => k_is)
    (case l_is_integer => k_is)
    (case k_is_integer => k_is)
    (case p_is_integer => k_is)
    (case a_is_between => k_is)
    (case l_is_between => k_is)
    (case k_is_between => k_is)
    (case p_is_between => k_is)
    (case a_is_chart => k_is)
    (case l_is_chart => k_is)
    (case k_is_chart => k_is)
    (case p_is_chart => k_is)
    (case a_check_chart => k_is)
    (case l_check_chart => k_is)
    (case k_check_chart => k_is)
    (case p_check_chart => k_is)
    (case a_text_of => k_is)
    (case l_text_of => k_is)
    (case k_text_of => k_is)
    (case p_text_of => k_is)
    (case a_chart_text => k_is)
    (case l_chart_text => k_is)
    (case k_chart_text => k_is)
    (case p_chart_text => k_is)
    (case a_chart_told => k_is)
    (case l_chart_told => k_is)
    (case k_chart_told => k_is)
    (case p_chart_told => k_is)
    (case a__law_bent => k_is)
    (case l__law_bent => k_is)
    (case k__law_bent => k_is)
    (case p__law_bent => k_is)
    (case a__law_told => k_is)
    (case l__law_told => k_is)
    (case k__law_told => k_is)
    (case p__law_told => k_is)
    (case a__law_read => k_is)
    (case l__law_read => k_is)
    (case k__law_read => k_is)
    (case p__law_read => k_is)
    (case a__law_refused => k_is)
    (case l__law_refused => k_is)
    (case k__law_refused => k_is)
    (case p__law_refused => k_is)
    (case a__law_bad_chart => k_is)
    (case l__law_bad_chart => k_is)
    (case k__law_bad_chart => k_is)
    (case p__law_bad_chart => k_is)
    (case a_law => k_is)
    (case l_law => k_is)
    (case k_law => k_is)
    (case p_law => k_is)
    (case z_all => k_is)
    (case z_bool => k_is)
    (case z_enumerate => k_is)
    (case z_int => k_is)
    (case z_isinstance => k_is)
    (case z_len => k_is)
    (case z_list => k_is)
    (case z_max => k_is)
    (case z_range => k_is)
    (case z_repr => k_is)
    (case z_str => k_is)
    (case z_super => k_is)
    (case z_tuple => k_is)
    (case g_MOST_PLACES => k_is)
    (case g_DIGITS => k_is)
    (case xa_NextError => k_is)
    (case xa_InvalidChart => k_is)
    (case xa_InvalidText => k_is)
    (case xe_InvalidChart => k_exc)
    (case xk_InvalidChart => k_is)
    (case xb_InvalidChart => k_is)
    (case xy_InvalidChart => k_is)
    (case xs_InvalidText => (refine' MM.sup_k (par := "index") ?a1 ?a2 ?a3 ?a4 ?a5 ?a6 ?a7 ?a8 ?a9 ?b1 ?b2 ?b3 ?b4 ?b5 ?b6 ?b7 ?b8 ?c1 ?c2 ?c3 ?d1 ?d3 ?d4 ?d5 ?d6 ?d7 ?e1 ?e2 ?e3 ?f1; (case a1 => k_is); (case a2 => first | rfl | decide +kernel); (case a3 => k_is); (case a4 => k_is); (case a5 => k_is); (case a6 => k_is); (case a7 => k_is); (case a8 => k_is); (case a9 => k_is); (case b1 => k_is); (case b2 => k_is); (case b3 => k_is); (case b4 => rfl); (case b5 => first | rfl | decide +kernel); (case b6 => k_is); (case b7 => exact ⟨_, _, _, _, _, _, _, _, _, _, _, _, rfl, rfl⟩); (case b8 => exact ⟨_, rfl, rfl⟩); (case c1 => exact ⟨rfl, rfl, rfl, rfl⟩); (case c2 => decide +kernel); (case c3 => exact ⟨rfl, rfl, rfl⟩); (case d1 => exact ⟨by decide, by decide⟩); (case d3 => first | rfl | decide +kernel); (case d4 => ks_is); (case d5 => k_is); (case d6 => k_is); (case d7 => k_is); (case e1 => k_is); (case e2 => k_is); (case e3 => k_is); (case f1 => exact fun _ _ => rfl)))
    (case xm_InvalidChart_NextError => first | rfl | k_is)
    (case xm_InvalidChart_InvalidChart => first | rfl | k_is)
    (case xm_InvalidChart_InvalidText => first | rfl | k_is)
    (case xm_InvalidText_NextError => first | rfl | k_is)
    (case xm_InvalidText_InvalidChart => first | rfl | k_is)
    (case xm_InvalidText_InvalidText => first | rfl | k_is)

