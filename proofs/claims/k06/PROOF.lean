import PyProof.Rows.All
import Wide.All
import OpenK.AllK
import Wide.FinOn
import HandS.ForMost
import HandS.ForExc
import HandS.TupAny
import HandS.Conv
import HandS.Strs
import KE.GoesMore
import HandS.Wide
import HandS.TupMul
import HandS.SortInts
import HandS.Zip
import HandS.IsInst
import HandS.Style
import HandS.Flow
import HandS.Deep
import HandS.Walk
import HandS.SetFor
import HandS.WideMore
import HandS.EndBits
import KE.DataMinMax
import KE.SortData
import HandS.Gcd
import PySem.Challenge.RW_everynext_k06_depths_and_trees
set_option Elab.async false
set_option linter.all false
set_option maxRecDepth 100000
set_option maxHeartbeats 4000000
/-! M0: tuples whose object is known to have no dict -/
namespace MM
open PySem L2 PySem.Spec PyProof.Rows
/-- a tuple, its object told -/
def SqN (K : PySem.W.Frag) (H : Hp) (a : Addr) (xs : List V) : Prop :=
  (∃ o, H a = some (.frz o (.tup xs)) ∧ o.dict = none) ∨
    ∃ (o : Obj) (its : Array Value) (n : Nat), K.lookup a = some o ∧ o.cls = .type "tuple" ∧ o.dict = none ∧ o.data = .seq its n ∧ its.size ≤ sizeLine ∧ Vals xs its.toList
theorem SqN.sq {K : PySem.W.Frag} {H : Hp} {a : Addr} {xs : List V} (h : SqN K H a xs) : SqT K H a xs := by
  rcases h with ⟨o, e, _⟩ | ⟨o, its, n, e1, e2, _, e3, e4, e5⟩
  · exact .inl (.inr ⟨o, e⟩)
  · exact .inr ⟨o, its, n, e1, e2, e3, e4, e5⟩
section
variable {X : Cx} {pins : List (Addr × Obj)} {σ : L2.St} {H : Hp} {s : Shared}
theorem SqN.obj (I : L2.Inv X pins σ H s) {a : Addr} {xs : List V} (h : SqN X.K H a xs) : ∃ ob, s.heap.get? a = some ob ∧ ob.cls = .type "tuple" ∧ ob.dict = none := by
  rcases h with ⟨o, e, hd⟩ | ⟨o, its, n, e1, e2, hd, _⟩
  · obtain ⟨e1, _, its, _, o', e2, hc, _⟩ := I.hok a _ e
    rw [e1] at e2; cases e2
    exact ⟨o, e1, hc, hd⟩
  · exact ⟨o, I.kIn a o e1, e2, hd⟩
end
section
variable {X : Cx}
def tTupN (t : TA) : TE := fun σ H Q => t σ H fun xs H1 => xs.length ≤ sizeLine ∧ ∀ p ob, H1 p = none → ob.dict = none → Q (.ref p) (upd H1 p (.frz ob (.tup xs)))
theorem pe_tupN {es : List Expr} {pos : Pos} {t : TA} {x1 : Nat} (h : PA X es t) : PE X (.Tuple es x1 pos) (tTupN t) := by
  refine ⟨fun pins s σ H Q I hq => ?_⟩
  refine wpAny_Tuple_spliced (thn (h.run pos pins s σ H _ I hq) fun us s1 ⟨xs, H1, I1, r, z, q⟩ => ⟨by rw [← r.length]; exact z, ?_⟩)
  have hf : H1 s1.heap.objs.size = none := I1.hok.fresh (Nat.le_refl _)
  refine ⟨.ref s1.heap.objs.size, upd H1 s1.heap.objs.size (.frz { cls := .type "tuple", data := .seq us.toArray } (.tup xs)), I1.laid (t' := s1.toks) (fun b u e => Heap.get?_push_of_some _ e) (Nat.le_refl _) ?_, rfl, q _ _ hf rfl⟩
  exact ⟨Heap.get?_push_size _ rfl, z, us, r, ⟨_, Heap.get?_push_size _ rfl, rfl, _, rfl⟩⟩
def rCatN (K : PySem.W.Frag) : R2 := fun x y H Q => ∃ a b xs ys, x = .ref a ∧ y = .ref b ∧ SqT K H a xs ∧ SqT K H b ys ∧ xs.length + ys.length ≤ sizeLine ∧
  (xs = [] → Q (.ref b) H) ∧ (xs ≠ [] → ys = [] → Q (.ref a) H) ∧ (xs ≠ [] → ys ≠ [] → ∀ p ob, H p = none → ob.dict = none → Q (.ref p) (upd H p (.frz ob (.tup (xs ++ ys)))))
theorem op_catN : OpR X (binaryOp .Add) (rCatN X.K) := by
  intro pins s σ H x y v u Q I rx ry h
  obtain ⟨a, b, xs, ys, rfl, rfl, ha, hb, hz, q0, q1, q2⟩ := h
  by_cases hx : xs = []
  · subst hx
    cases rx
    cases ry
    obtain ⟨its, r1, p1, _⟩ := I.tuple ha
    obtain ⟨its2, r2, p2, _⟩ := I.tuple hb
    cases r1
    exact L2.cat_tup0 p1 p2 ⟨.ref b, H, I, rfl, q0 rfl⟩
  · cases rx
    cases ry
    obtain ⟨its, r1, p1, _⟩ := I.tuple ha
    obtain ⟨its2, r2, p2, _⟩ := I.tuple hb
    refine HT.cat_tup p1 p2 (fun z => hx (r1.nil_iff.mp z)) (fun z => ⟨.ref a, H, I, rfl, q1 hx (r2.nil_iff.mp z)⟩) (fun z => ?_) (by rw [← r1.length, ← r2.length]; exact hz)
    refine ⟨.ref s.heap.objs.size, _, I.laid (t' := s.toks) (o := .frz { cls := .type "tuple", data := .seq (its ++ its2).toArray } (.tup (xs ++ ys))) (fun b ob q => Heap.get?_push_of_some _ q) (Nat.le_refl _) ?_, rfl, q2 hx (fun w => z (r2.nil_iff.mpr w)) _ _ (I.hok.fresh (Nat.le_refl _)) rfl⟩
    exact ⟨Heap.get?_push_size _ rfl, by rw [List.length_append]; exact hz, _, r1.append r2, IsTup.new _ _⟩
def rSlN (K : PySem.W.Frag) : V → Option Int → Option Int → Hp → VK → Prop := fun x lo hi H Q => ∃ a xs, x = .ref a ∧ SqT K H a xs ∧
  (HT.sIx xs.length 0 lo = 0 ∧ HT.sIx xs.length xs.length hi = xs.length → Q (.ref a) H) ∧ (¬ (HT.sIx xs.length 0 lo = 0 ∧ HT.sIx xs.length xs.length hi = xs.length) → ∀ p ob, H p = none → ob.dict = none → Q (.ref p) (upd H p (.frz ob (.tup (cutV xs lo hi)))))
theorem sl_tupN : SlR X (rSlN X.K) := by
  intro pins s σ H x v vl vu lo hi sl Q I rx hs pl pu h
  obtain ⟨a, xs, rfl, hx, q1, q2⟩ := h
  cases rx
  obtain ⟨its, r, ht, hz⟩ := I.tuple hx
  have hlen : its.toArray.size = xs.length := by rw [List.size_toArray]; exact r.length.symm
  by_cases hw : HT.sIx xs.length 0 lo = 0 ∧ HT.sIx xs.length xs.length hi = xs.length
  · refine ⟨"tuple", _, PyProof.Rows.slot_tuple_getitem.lookup, ht.typeIs, ?_⟩
    exact L2.getItem_tuple_whole ht hs pl pu (by rw [hlen]; exact hw) ⟨.ref a, H, I, rfl, q1 hw⟩
  · refine ⟨"tuple", _, PyProof.Rows.slot_tuple_getitem.lookup, ht.typeIs, ?_⟩
    refine HT.getItem_tuple_cut ht hs pl pu (by rw [hlen]; exact hw) ?_ (by rw [hlen]; exact hz)
    rw [hlen]
    refine ⟨.ref s.heap.objs.size, _, I.laid (t' := s.toks) (o := .frz { cls := .type "tuple", data := .seq ((its.drop (HT.sIx xs.length 0 lo)).take (HT.sIx xs.length xs.length hi - HT.sIx xs.length 0 lo)).toArray } (.tup (cutV xs lo hi))) (fun b ob q => Heap.get?_push_of_some _ q) (Nat.le_refl _) ?_, rfl, q2 hw _ _ (I.hok.fresh (Nat.le_refl _)) rfl⟩
    exact ⟨Heap.get?_push_size _ rfl, Nat.le_trans (cutV_length xs lo hi) hz, _, (r.drop (HT.sIx xs.length 0 lo)).take (HT.sIx xs.length xs.length hi - HT.sIx xs.length 0 lo), IsTup.new _ _⟩
theorem call_tupleN : CallR X (.type "tuple") (fun xs H Q => ∃ p ys, xs = [.ref p] ∧ ((SqL X.K H p ys ∧ ∀ l ob, H l = none → ob.dict = none → Q (.ref l) (upd H l (.frz ob (.tup ys)))) ∨ (SqT X.K H p ys ∧ Q (.ref p) H))) := by
  intro pins s σ H xs us Q I r h
  obtain ⟨p, ys, rfl, h⟩ := h
  obtain ⟨u, rfl, rx⟩ := vals1 r
  cases rx
  rcases h with ⟨hq, q⟩ | ⟨hq, q⟩
  · obtain ⟨its, r', pl, hz⟩ := I.list hq
    have hlen := r'.length
    refine call_tuple_list pl.isList (fun h' kp => ?_) (by simp only [List.size_toArray] <;> omega)
    have I1 : L2.Inv X pins σ H { s with heap := h' } := I.kept (t' := s.toks) kp
    exact ⟨.ref h'.objs.size, _, I1.laid (t' := s.toks) (o := .frz { cls := .type "tuple", data := .seq its.toArray } (.tup ys)) (fun b o e => Heap.get?_push_of_some _ e) (Nat.le_refl _) ⟨Heap.get?_push_size _ rfl, hz, its, r', IsTup.new _ _⟩, rfl, q _ _ (I1.hok.fresh (Nat.le_refl _)) rfl⟩
  · obtain ⟨its, _, p1, _⟩ := I.tuple hq
    exact call_tuple_same (items := its.toArray) p1 ⟨.ref p, H, I, rfl, q⟩
end
end MM
/-! M1: values, the small heap, relations, readings -/
namespace MM
open PySem L2

inductive IV where
  | non
  | bl (b : Bool)
  | int (i : Int)
  | str (s : Str)
  | scr (ns : List Int)
  | ref (k : Nat)
  | tup (xs : List IV)
  deriving Inhabited

/-- what stands in the small heap -/
inductive IO where
  | lst (xs : List IV)
  deriving Inhabited

abbrev IH := List IO
abbrev IEnv := List (Option IV)

/-- an exception: its class by number, its field's value -/
structure XC where
  cls : Nat
  fld : Option IV

inductive R (α : Type) where
  | ok (a : α) (h : IH)
  | exc (x : XC) (h : IH)
  | bad

def R.bind {α β : Type} (r : R α) (f : α → IH → R β) : R β :=
  match r with
  | .ok a h => f a h
  | .exc x h => .exc x h
  | .bad => .bad

inductive RS where
  | nx (e : IEnv) (h : IH)
  | rt (v : IV) (h : IH)
  | bk (e : IEnv) (h : IH)
  | ct (e : IEnv) (h : IH)
  | exc (x : XC) (e : IEnv) (h : IH)
  | bad

/-- the classes of exceptions by number, their fields' names -/
structure Cc where
  ca : Nat → Addr
  cf : Nat → Str

/-- a list that nobody writes -/
def SqF (K : PySem.W.Frag) (H : Hp) (a : Addr) (xs : List V) : Prop :=
  (∃ o, H a = some (.frz o (.lst xs))) ∨ SqL K (fun _ => none) a xs

mutual
def VR (K : PySem.W.Frag) (m : List Addr) (H : Hp) : IV → V → Prop
  | .non, v => v = .non
  | .bl b, v => v = .bl b
  | .int i, v => v = .int i
  | .str s, v => v = .str s
  | .scr ns, v => ∃ a, v = .ref a ∧ SqF K H a (ns.map V.int)
  | .ref k, v => ∃ a, m[k]? = some a ∧ v = .ref a
  | .tup xs, v => ∃ a vs, v = .ref a ∧ SqN K H a vs ∧ VRs K m H xs vs
def VRs (K : PySem.W.Frag) (m : List Addr) (H : Hp) : List IV → List V → Prop
  | [], vs => vs = []
  | x :: xs, vs => ∃ v r, vs = v :: r ∧ VR K m H x v ∧ VRs K m H xs r
end

def OR (K : PySem.W.Frag) (m : List Addr) (H : Hp) : IO → Addr → Prop
  | .lst xs, a => ∃ vs, H a = some (.lst vs) ∧ VRs K m H xs vs

structure SR (K : PySem.W.Frag) (m : List Addr) (H : Hp) (h : IH) : Prop where
  len : m.length = h.length
  nd : m.Nodup
  obj : ∀ (k : Nat) o, h[k]? = some o → ∃ a, m[k]? = some a ∧ OR K m H o a

/-- from one state to a later one -/
structure Go (K : PySem.W.Frag) (m : List Addr) (H : Hp) (m' : List Addr) (H' : Hp) : Prop where
  pre : ∀ (k : Nat) a, m[k]? = some a → m'[k]? = some a
  new : ∀ a, a ∈ m' → a ∈ m ∨ H a = none
  fr : ∀ a o, H a = some o → a ∉ m → H' a = some o
  tup : ∀ a xs, SqN K H a xs → SqN K H' a xs
  frz : ∀ a o u, H a = some (.frz o u) → H' a = some (.frz o u)

section
variable {K : PySem.W.Frag} {m m1 m' : List Addr} {H H1 H' : Hp} {h : IH}
theorem Go.refl : Go K m H m H := ⟨fun _ _ e => e, fun _ e => .inl e, fun _ _ e _ => e, fun _ _ e => e, fun _ _ _ e => e⟩
theorem Go.trans (g : Go K m H m1 H1) (g' : Go K m1 H1 m' H') : Go K m H m' H' where
  pre := fun k a e => g'.pre k a (g.pre k a e)
  new := fun a e => by
    rcases g'.new a e with e1 | e1
    · exact g.new a e1
    · cases q : H a with
      | none => exact .inr rfl
      | some o =>
        by_cases ha : a ∈ m
        · exact .inl ha
        · rw [g.fr a o q ha] at e1; cases e1
  fr := fun a o e n => g'.fr a o (g.fr a o e n) fun z => by
    rcases g.new a z with q | q
    · exact n q
    · rw [q] at e; cases e
  tup := fun a xs e => g'.tup a xs (g.tup a xs e)
  frz := fun a o u e => g'.frz a o u (g.frz a o u e)

theorem SqF.list {a : Addr} {xs : List V} (s : SqF K H a xs) : SqL K H a xs := by
  rcases s with ⟨o, q⟩ | (q | ⟨o, q⟩) | q
  · exact .inl (.inr ⟨o, q⟩)
  · cases q
  · cases q
  · exact .inr q
theorem Go.scr (g : Go K m H m' H') {a : Addr} {xs : List V} (s : SqF K H a xs) : SqF K H' a xs := by
  rcases s with ⟨o, q⟩ | q
  · exact .inl ⟨o, g.frz _ _ _ q⟩
  · exact .inr q
/-- a tracked thing outside stays outside -/
theorem Go.out {a : Addr} {o : HO} (g : Go K m H m' H') (e : H a = some o) (n : a ∉ m) : a ∉ m' := fun z => by
  rcases g.new a z with q | q
  · exact n q
  · rw [q] at e; cases e

mutual
theorem VR.imp (pre : ∀ (k : Nat) a, m[k]? = some a → m'[k]? = some a) (tup : ∀ a xs, SqN K H a xs → SqN K H' a xs) (scr : ∀ a xs, SqF K H a xs → SqF K H' a xs) : ∀ (x : IV) (v : V), VR K m H x v → VR K m' H' x v
  | .non, _, r => by simpa only [VR] using r
  | .bl _, _, r => by simpa only [VR] using r
  | .int _, _, r => by simpa only [VR] using r
  | .str _, _, r => by simpa only [VR] using r
  | .scr ns, _, r => by
    simp only [VR] at r ⊢
    obtain ⟨a, e, s⟩ := r
    exact ⟨a, e, scr _ _ s⟩
  | .ref k, _, r => by
    simp only [VR] at r ⊢
    obtain ⟨a, e, e2⟩ := r
    exact ⟨a, pre _ _ e, e2⟩
  | .tup xs, _, r => by
    simp only [VR] at r ⊢
    obtain ⟨a, vs, e, s, q⟩ := r
    exact ⟨a, vs, e, tup _ _ s, VRs.imp pre tup scr xs vs q⟩
theorem VRs.imp (pre : ∀ (k : Nat) a, m[k]? = some a → m'[k]? = some a) (tup : ∀ a xs, SqN K H a xs → SqN K H' a xs) (scr : ∀ a xs, SqF K H a xs → SqF K H' a xs) : ∀ (xs : List IV) (vs : List V), VRs K m H xs vs → VRs K m' H' xs vs
  | [], _, r => by simpa only [VRs] using r
  | x :: xs, _, r => by
    simp only [VRs] at r ⊢
    obtain ⟨v, q, e, r1, r2⟩ := r
    exact ⟨v, q, e, VR.imp pre tup scr x v r1, VRs.imp pre tup scr xs q r2⟩
end
theorem VR.mono (g : Go K m H m' H') (x : IV) (v : V) (r : VR K m H x v) : VR K m' H' x v := VR.imp g.pre g.tup (fun _ _ s => g.scr s) x v r
theorem VRs.mono (g : Go K m H m' H') (x : List IV) (v : List V) (r : VRs K m H x v) : VRs K m' H' x v := VRs.imp g.pre g.tup (fun _ _ s => g.scr s) x v r
theorem pre_more {p : Addr} (k : Nat) (a : Addr) (e : m[k]? = some a) : (m ++ [p])[k]? = some a := by
  rw [List.getElem?_append_left (List.getElem?_eq_some_iff.mp e).1]; exact e
theorem VR.more {p : Addr} {x : IV} {v : V} (r : VR K m H x v) : VR K (m ++ [p]) H x v := VR.imp pre_more (fun _ _ e => e) (fun _ _ e => e) x v r
theorem VRs.more {p : Addr} {x : List IV} {v : List V} (r : VRs K m H x v) : VRs K (m ++ [p]) H x v := VRs.imp pre_more (fun _ _ e => e) (fun _ _ e => e) x v r
theorem VRs.length : ∀ {xs : List IV} {vs : List V}, VRs K m H xs vs → xs.length = vs.length
  | [], _, r => by simp only [VRs] at r; subst r; rfl
  | x :: xs, _, r => by
    simp only [VRs] at r
    obtain ⟨v, q, rfl, _, r2⟩ := r
    simp [VRs.length r2]
theorem VRs.get : ∀ {xs : List IV} {vs : List V} {i : Nat} {x : IV}, VRs K m H xs vs → xs[i]? = some x → ∃ v, vs[i]? = some v ∧ VR K m H x v
  | [], _, i, x, _, e => by simp at e
  | y :: xs, _, i, x, r, e => by
    simp only [VRs] at r
    obtain ⟨v, q, rfl, r1, r2⟩ := r
    cases i with
    | zero => simp at e; subst e; exact ⟨v, rfl, r1⟩
    | succ i =>
      obtain ⟨u, h1, h2⟩ := VRs.get (i := i) r2 (by simpa using e)
      exact ⟨u, by simpa using h1, h2⟩
theorem VRs.append : ∀ {xs ys : List IV} {vs ws : List V}, VRs K m H xs vs → VRs K m H ys ws → VRs K m H (xs ++ ys) (vs ++ ws)
  | [], _, _, _, r, r' => by simp only [VRs] at r; subst r; exact r'
  | x :: xs, _, _, _, r, r' => by
    simp only [VRs] at r
    obtain ⟨v, q, rfl, r1, r2⟩ := r
    simp only [List.cons_append, VRs]
    exact ⟨v, _, rfl, r1, VRs.append r2 r'⟩
theorem VRs.set : ∀ {xs : List IV} {vs : List V} (i : Nat) {x : IV} {v : V}, VRs K m H xs vs → VR K m H x v → VRs K m H (xs.set i x) (vs.set i v)
  | [], _, i, _, _, r, _ => by simp only [VRs] at r; subst r; simp [VRs]
  | y :: xs, _, i, x, v, r, rx => by
    simp only [VRs] at r
    obtain ⟨u, q, rfl, r1, r2⟩ := r
    cases i with
    | zero => simp only [List.set_cons_zero, VRs]; exact ⟨v, q, rfl, rx, r2⟩
    | succ i => simp only [List.set_cons_succ, VRs]; exact ⟨u, _, rfl, r1, VRs.set i r2 rx⟩
theorem VRs.take : ∀ {xs : List IV} {vs : List V} (n : Nat), VRs K m H xs vs → VRs K m H (xs.take n) (vs.take n)
  | [], _, n, r => by simp only [VRs] at r; subst r; simp [VRs]
  | y :: xs, _, n, r => by
    simp only [VRs] at r
    obtain ⟨u, q, rfl, r1, r2⟩ := r
    cases n with
    | zero => simp [VRs]
    | succ n => simp only [List.take_succ_cons, VRs]; exact ⟨u, _, rfl, r1, VRs.take n r2⟩
theorem VRs.drop : ∀ {xs : List IV} {vs : List V} (n : Nat), VRs K m H xs vs → VRs K m H (xs.drop n) (vs.drop n)
  | [], _, n, r => by simp only [VRs] at r; subst r; simp [VRs]
  | y :: xs, _, n, r => by
    cases n with
    | zero => exact r
    | succ n =>
      simp only [VRs] at r
      obtain ⟨u, q, rfl, r1, r2⟩ := r
      simpa using VRs.drop n r2
theorem VRs.reverse : ∀ {xs : List IV} {vs : List V}, VRs K m H xs vs → VRs K m H xs.reverse vs.reverse
  | [], _, r => by simp only [VRs] at r; subst r; simp [VRs]
  | y :: xs, _, r => by
    simp only [VRs] at r
    obtain ⟨u, q, rfl, r1, r2⟩ := r
    simp only [List.reverse_cons]
    exact VRs.append (VRs.reverse r2) ⟨u, [], rfl, r1, rfl⟩
theorem VRs.eraseIdx : ∀ {xs : List IV} {vs : List V} (n : Nat), VRs K m H xs vs → VRs K m H (xs.eraseIdx n) (vs.eraseIdx n)
  | [], _, n, r => by simp only [VRs] at r; subst r; simp [VRs]
  | y :: xs, _, n, r => by
    simp only [VRs] at r
    obtain ⟨u, q, rfl, r1, r2⟩ := r
    cases n with
    | zero => simpa using r2
    | succ n => simp only [List.eraseIdx_cons_succ, VRs]; exact ⟨u, _, rfl, r1, VRs.eraseIdx n r2⟩
theorem VRs.rep {xs : List IV} {vs : List V} (r : VRs K m H xs vs) : ∀ n : Nat, VRs K m H (List.replicate n xs).flatten (List.replicate n vs).flatten
  | 0 => by simp [VRs]
  | n + 1 => by
    rw [List.replicate_succ, List.replicate_succ, List.flatten_cons, List.flatten_cons]
    exact VRs.append r (VRs.rep r n)
theorem VRs.ints : ∀ {ns : List Int} {vs : List V}, VRs K m H (ns.map IV.int) vs → vs = ns.map V.int
  | [], _, r => by simp only [List.map, VRs] at r; exact r
  | n :: ns, _, r => by
    simp only [List.map, VRs, VR] at r
    obtain ⟨v, q, rfl, rfl, r2⟩ := r
    rw [VRs.ints r2]; rfl
theorem VRs.of_ints : ∀ (ns : List Int), VRs K m H (ns.map IV.int) (ns.map V.int)
  | [] => by simp [VRs]
  | n :: ns => by simp only [List.map, VRs, VR]; exact ⟨_, _, rfl, rfl, VRs.of_ints ns⟩

theorem SR.mem (s : SR K m H h) {a : Addr} (ha : a ∈ m) : ∃ vs, H a = some (.lst vs) := by
  obtain ⟨k, e⟩ := List.mem_iff_getElem?.mp ha
  have hk : k < h.length := by
    rw [← s.len]; exact (List.getElem?_eq_some_iff.mp e).1
  obtain ⟨b, e2, q⟩ := s.obj k h[k] (by simp [hk])
  rw [e] at e2; cases e2
  cases ho : h[k] with
  | lst xs =>
    rw [ho] at q
    obtain ⟨vs, q1, _⟩ := q
    exact ⟨vs, q1⟩
theorem SR.fresh (s : SR K m H h) {p : Addr} (hp : H p = none) : p ∉ m := fun z => by
  obtain ⟨vs, e⟩ := s.mem z
  rw [hp] at e; cases e
theorem SqN.upd_new {p : Addr} {o : HO} (hp : H p = none) {a : Addr} {xs : List V} (t : SqN K H a xs) : SqN K (upd H p o) a xs := by
  rcases t with ⟨o', q, d⟩ | q
  · exact .inl ⟨o', by rw [upd_ne (ne_of_none q hp)]; exact q, d⟩
  · exact .inr q
/-- a new thing that the small heap does not hold -/
theorem Go.laid {p : Addr} {o : HO} (hp : H p = none) : Go K m H m (upd H p o) :=
  ⟨fun _ _ e => e, fun _ e => .inl e, fun a u e _ => by rw [upd_ne (ne_of_none e hp)]; exact e, fun _ _ t => SqN.upd_new hp t, fun a u v e => by rw [upd_ne (ne_of_none e hp)]; exact e⟩
theorem OR.mono {o : IO} {a : Addr} (g : Go K m H m' H') (e : ∀ u, H a = some u → H' a = some u) (q : OR K m H o a) : OR K m' H' o a := by
  cases o with
  | lst xs =>
    obtain ⟨vs, q1, q2⟩ := q
    exact ⟨vs, e _ q1, VRs.mono g _ _ q2⟩
theorem SR.laid {p : Addr} {o : HO} (s : SR K m H h) (hp : H p = none) : SR K m (upd H p o) h :=
  ⟨s.len, s.nd, fun k u e => by
    obtain ⟨a, e1, q⟩ := s.obj k u e
    exact ⟨a, e1, OR.mono (Go.laid hp) (fun w e => by rw [upd_ne (ne_of_none e hp)]; exact e) q⟩⟩
theorem VR.newTup {p : Addr} {ob : Obj} {xs : List IV} {vs : List V} (hp : H p = none) (hd : ob.dict = none) (r : VRs K m H xs vs) : VR K m (upd H p (.frz ob (.tup vs))) (.tup xs) (.ref p) := by
  simp only [VR]
  exact ⟨p, vs, rfl, .inl ⟨ob, upd_same, hd⟩, VRs.mono (Go.laid hp) _ _ r⟩
/-- a list that stands outside is taken into the small heap -/
theorem Go.take {p : Addr} {vs : List V} (hp : H p = some (.lst vs)) (hn : p ∉ m) {m0 : List Addr} {H0 : Hp} (g : Go K m0 H0 m H) (h0 : H0 p = none) : Go K m0 H0 (m ++ [p]) H where
  pre := fun k a e => by
    have q := g.pre k a e
    rw [List.getElem?_append_left (List.getElem?_eq_some_iff.mp q).1]; exact q
  new := fun a e => by
    rcases List.mem_append.mp e with q | q
    · exact g.new a q
    · simp at q; subst q; exact .inr h0
  fr := fun a o e n => g.fr a o e n
  tup := g.tup
  frz := g.frz
theorem SR.take {p : Addr} {xs : List IV} {vs : List V} (s : SR K m H h) (hp : H p = some (.lst vs)) (hn : p ∉ m) (r : VRs K m H xs vs) : SR K (m ++ [p]) H (h ++ [.lst xs]) where
  len := by simp [s.len]
  nd := by
    refine List.nodup_append.mpr ⟨s.nd, by simp, fun a ha b hb => ?_⟩
    simp at hb; subst hb
    intro z; exact hn (z ▸ ha)
  obj := fun k o e => by
    by_cases hk : k < h.length
    · rw [List.getElem?_append_left hk] at e
      obtain ⟨a, e1, q⟩ := s.obj k o e
      refine ⟨a, pre_more _ _ e1, ?_⟩
      cases o with
      | lst ys =>
        obtain ⟨ws, q1, q2⟩ := q
        exact ⟨ws, q1, VRs.more q2⟩
    · have hk2 : k = h.length := by
        have := (List.getElem?_eq_some_iff.mp e).1
        simp at this; omega
      subst hk2
      simp at e; subst e
      refine ⟨p, by rw [← s.len]; simp, vs, hp, VRs.more r⟩
/-- an object of the small heap is written -/
theorem Go.write {k : Nat} {a : Addr} {o : HO} {vs : List V} (e : m[k]? = some a) (ha : H a = some (.lst vs)) : Go K m H m (upd H a o) where
  pre := fun _ _ e => e
  new := fun _ e => .inl e
  fr := fun b u e1 n => by
    have nb : b ≠ a := fun z => n (by rw [z]; exact List.mem_of_getElem? e)
    rw [upd_ne nb]; exact e1
  tup := fun b xs t => by
    rcases t with ⟨o', q, d⟩ | q
    · exact .inl ⟨o', by rw [upd_ne (ne_of q ha (by intro z; cases z))]; exact q, d⟩
    · exact .inr q
  frz := fun b o' u q => by rw [upd_ne (ne_of q ha (by intro z; cases z))]; exact q
theorem SR.write {k : Nat} {a : Addr} {vs ws : List V} {xs : List IV} (s : SR K m H h) (e : m[k]? = some a) (ha : H a = some (.lst vs)) (r : VRs K m H xs ws) : SR K m (upd H a (.lst ws)) (h.set k (.lst xs)) where
  len := by simp [s.len]
  nd := s.nd
  obj := fun j o q => by
    have g : Go K m H m (upd H a (.lst ws)) := Go.write e ha
    by_cases hj : k = j
    · subst hj
      have hk : k < h.length := by rw [← s.len]; exact (List.getElem?_eq_some_iff.mp e).1
      rw [List.getElem?_set_self hk] at q; cases q
      exact ⟨a, e, ws, upd_same, VRs.mono g _ _ r⟩
    · rw [List.getElem?_set_ne hj] at q
      obtain ⟨b, e1, q1⟩ := s.obj j o q
      have nb : b ≠ a := fun z => hj ((List.getElem_inj s.nd (h₀ := (List.getElem?_eq_some_iff.mp e).1) (h₁ := (List.getElem?_eq_some_iff.mp e1).1)).mp (by
        rw [(List.getElem?_eq_some_iff.mp e).2, (List.getElem?_eq_some_iff.mp e1).2, z]))
      refine ⟨b, e1, OR.mono g (fun u z => by rw [upd_ne nb]; exact z) q1⟩
theorem SR.get {k : Nat} {xs : List IV} (s : SR K m H h) (e : h[k]? = some (.lst xs)) : ∃ a vs, m[k]? = some a ∧ H a = some (.lst vs) ∧ VRs K m H xs vs := by
  obtain ⟨a, e1, vs, q1, q2⟩ := s.obj k _ e
  exact ⟨a, vs, e1, q1, q2⟩

/-! ### environments -/
structure ER (K : PySem.W.Frag) (m : List Addr) (H : Hp) (env : IEnv) (σ : St) : Prop where
  len : env.length = σ.length
  at_ : ∀ (i : Nat) x, env[i]? = some (some x) → ∃ v, σ[i]? = some (some v) ∧ VR K m H x v
theorem ER.mono {env : IEnv} {σ : St} (e : ER K m H env σ) (g : Go K m H m' H') : ER K m' H' env σ :=
  ⟨e.len, fun i x q => by
    obtain ⟨v, h1, h2⟩ := e.at_ i x q
    exact ⟨v, h1, VR.mono g _ _ h2⟩⟩
theorem ER.set {env : IEnv} {σ : St} (e : ER K m H env σ) {i : Nat} {x : IV} {v : V} (r : VR K m H x v) : ER K m H (env.set i (some x)) (σ.set i (some v)) :=
  ⟨by simp [e.len], fun j y q => by
    by_cases hj : i = j
    · subst hj
      have hi : i < env.length := by
        have := (List.getElem?_eq_some_iff.mp q).1
        simpa using this
      rw [List.getElem?_set_self hi] at q; cases q
      exact ⟨v, by rw [List.getElem?_set_self (by rw [← e.len]; exact hi)], r⟩
    · rw [List.getElem?_set_ne hj] at q
      obtain ⟨u, h1, h2⟩ := e.at_ j y q
      exact ⟨u, by rw [List.getElem?_set_ne hj]; exact h1, h2⟩⟩
end

/-! ### readings -/
/-- what is told of an answer: the state at the start, the state at the end, the two sides -/
abbrev Rel (α β : Type) := List Addr → Hp → List Addr → Hp → α → β → Prop
class RelMono {α β : Type} (K : PySem.W.Frag) (rel : Rel α β) : Prop where
  mono : ∀ {m H m1 H1 m' H' a u}, Go K m H m1 H1 → rel m1 H1 m' H' a u → rel m H m' H' a u

def XRel (C : Cc) (K : PySem.W.Frag) (m : List Addr) (H : Hp) (x : XC) (cls : Value) (d : Option Addr) : Prop :=
  cls = .ref (C.ca x.cls) ∧ match x.fld with
    | none => d = none
    | some v => ∃ dd u, d = some dd ∧ dd ∉ m ∧ H dd = some (.xd [(C.cf x.cls, u)]) ∧ VR K m H v u

def Post (C : Cc) (K : PySem.W.Frag) (W : WX) (σ : St) {α β : Type} (m : List Addr) (H : Hp) (rel : Rel α β) (Q : β → Hp → Prop) : R α → Prop
  | .ok a h' => ∀ m' H' u, Go K m H m' H' → SR K m' H' h' → rel m H m' H' a u → Q u H'
  | .exc x h' => ∀ m' H' cls d, Go K m H m' H' → SR K m' H' h' → XRel C K m' H' x cls d → W cls d σ H'
  | .bad => False

/-- the reading of what f computes, told by rel -/
def tG (C : Cc) (K : PySem.W.Frag) (W : WX) {α β : Type} (rel : Rel α β) (f : IEnv → IH → R α) : St → Hp → (β → Hp → Prop) → Prop := fun σ H Q =>
  ∃ m env h, ER K m H env σ ∧ SR K m H h ∧ Post C K W σ m H rel Q (f env h)

section
variable {C : Cc} {K : PySem.W.Frag} {W : WX} {σ : St} {α β γ δ : Type} {m m' : List Addr} {H H' : Hp} {h : IH} {env : IEnv} {rel : Rel α β} {rel2 : Rel γ δ}
theorem Post.mono [RelMono K rel] {Q : β → Hp → Prop} {r : R α} (g : Go K m H m' H') (p : Post C K W σ m H rel Q r) : Post C K W σ m' H' rel Q r := by
  cases r with
  | ok a h' => exact fun m1 H1 u g1 s q => p m1 H1 u (g.trans g1) s (RelMono.mono g q)
  | exc x h' => exact fun m1 H1 c d g1 s q => p m1 H1 c d (g.trans g1) s q
  | bad => exact p
theorem tg_run [RelMono K rel2] {f : R α} {k : α → IH → R γ} {Q : δ → Hp → Prop} {T : β → Hp → Prop} (p : Post C K W σ m H rel2 Q (f.bind k))
    (hT : ∀ m' H' a h' u, Go K m H m' H' → SR K m' H' h' → rel m H m' H' a u → Post C K W σ m' H' rel2 Q (k a h') → T u H') : Post C K W σ m H rel T f := by
  cases f with
  | ok a h' => exact fun m1 H1 u g s q => hT m1 H1 a h' u g s q (Post.mono g p)
  | exc x h' => exact p
  | bad => exact p
/-- the answer is at hand -/
theorem Post.here {Q : β → Hp → Prop} {a : α} {u : β} (p : Post C K W σ m H rel Q (.ok a h)) (s : SR K m H h) (r : rel m H m H a u) : Q u H := p m H u Go.refl s r
end

def rV (K : PySem.W.Frag) : Rel IV V := fun _ _ m H => VR K m H
def rVs (K : PySem.W.Frag) : Rel (List IV) (List V) := fun _ _ m H => VRs K m H
def rB : Rel Bool Bool := fun _ _ _ _ a b => a = b
def rO : Rel (Option Int) (Option Int) := fun _ _ _ _ a b => a = b
/-- a list outside the small heap, which nobody else holds -/
def rL (K : PySem.W.Frag) : Rel (List IV) V := fun m0 H0 m H xs v => ∃ p vs, v = .ref p ∧ p ∉ m ∧ (p ∉ m0 → H0 p = none) ∧ H p = some (.lst vs) ∧ VRs K m H xs vs
/-- a list or a tuple, to be read at once -/
def rS (K : PySem.W.Frag) : Rel (List IV) V := fun _ _ m H xs v => ∃ p vs, v = .ref p ∧ (SqL K H p vs ∨ SqN K H p vs) ∧ VRs K m H xs vs
instance {K : PySem.W.Frag} : RelMono K (rV K) := ⟨fun _ r => r⟩
instance {K : PySem.W.Frag} : RelMono K (rVs K) := ⟨fun _ r => r⟩
instance {K : PySem.W.Frag} : RelMono K rB := ⟨fun _ r => r⟩
instance {K : PySem.W.Frag} : RelMono K rO := ⟨fun _ r => r⟩
instance {K : PySem.W.Frag} : RelMono K (rS K) := ⟨fun _ r => r⟩
theorem fresh_back {K : PySem.W.Frag} {m m1 : List Addr} {H H1 : Hp} {p : Addr} (g : Go K m H m1 H1) (f : p ∉ m1 → H1 p = none) (hp : p ∉ m) : H p = none := by
  cases z : H p with
  | none => rfl
  | some o =>
    have z1 := f (g.out z hp)
    rw [g.fr p o z hp] at z1
    cases z1
instance {K : PySem.W.Frag} : RelMono K (rL K) := ⟨fun g ⟨p, vs, e, n, f, q, r⟩ => ⟨p, vs, e, n, fresh_back g f, q, r⟩⟩
abbrev EM := IEnv → IH → R IV
abbrev tE (C : Cc) (K : PySem.W.Frag) (W : WX) (f : EM) : TE := tG C K W (rV K) f
abbrev tA (C : Cc) (K : PySem.W.Frag) (W : WX) (f : IEnv → IH → R (List IV)) : TA := tG C K W (rVs K) f
abbrev tT (C : Cc) (K : PySem.W.Frag) (W : WX) (f : IEnv → IH → R Bool) : TT := tG C K W rB f
abbrev tL (C : Cc) (K : PySem.W.Frag) (W : WX) (f : IEnv → IH → R (List IV)) : TE := tG C K W (rL K) f
abbrev tSq (C : Cc) (K : PySem.W.Frag) (W : WX) (f : IEnv → IH → R (List IV)) : TE := tG C K W (rS K) f
abbrev tOI (C : Cc) (K : PySem.W.Frag) (W : WX) (f : IEnv → IH → R (Option Int)) : TO := tG C K W rO f

section
variable {X : Cx} {C : Cc} {W : WX}
theorem pe_weak {e : Expr} {t t' : TE} (h : PE X e t) (q : ∀ σ H Q, t' σ H Q → t σ H Q) : PE X e t' := ⟨fun pins s σ H Q I z => h.run pins s σ H Q I (q _ _ _ z)⟩
theorem pt_weak {e : Expr} {t t' : TT} (h : PT X e t) (q : ∀ σ H Q, t' σ H Q → t σ H Q) : PT X e t' := ⟨fun pins s σ H Q I z => h.run pins s σ H Q I (q _ _ _ z)⟩
theorem pw_weak {e : Expr} {t t' : TT} (h : PW X e t) (q : ∀ σ H Q, t' σ H Q → t σ H Q) : PW X e t' := ⟨fun wh pins s σ H Q I z => h.run wh pins s σ H Q I (q _ _ _ z)⟩
theorem pa_weak {es : List Expr} {t t' : TA} (h : PA X es t) (q : ∀ σ H Q, t' σ H Q → t σ H Q) : PA X es t' := ⟨fun ps pins s σ H Q I z => h.run ps pins s σ H Q I (q _ _ _ z)⟩
theorem ps_weak {e : Stmt} {t t' : TS} (h : PS X e t) (q : ∀ D σ H, t' D σ H → t D σ H) : PS X e t' := ⟨fun pins s σ H D I z => h.run pins s σ H D I (q _ _ _ z)⟩
theorem pss_weak {e : List Stmt} {t t' : TS} (h : PSs X e t) (q : ∀ D σ H, t' D σ H → t D σ H) : PSs X e t' := ⟨fun pins s σ H D I z => h.run pins s σ H D I (q _ _ _ z)⟩
end
end MM
/-! M2: expressions -/
namespace MM
open PySem L2

/-! ### the combinators -/
def eVar (i : Nat) : EM := fun env h => match env[i]? with
  | some (some v) => .ok v h
  | _ => .bad
def eK (v : IV) : EM := fun _ h => .ok v h
def e1 (o : IV → IH → R IV) (f : EM) : EM := fun env h => (f env h).bind fun x h1 => o x h1
def e2 (o : IV → IV → IH → R IV) (f g : EM) : EM := fun env h => (f env h).bind fun x h1 => (g env h1).bind fun y h2 => o x y h2
def aNil : IEnv → IH → R (List IV) := fun _ h => .ok [] h
def aCons (f : EM) (g : IEnv → IH → R (List IV)) : IEnv → IH → R (List IV) := fun env h => (f env h).bind fun x h1 => (g env h1).bind fun xs h2 => .ok (x :: xs) h2
def eC (o : List IV → IH → R IV) (f : IEnv → IH → R (List IV)) : EM := fun env h => (f env h).bind fun xs h1 => o xs h1
def eTup (f : IEnv → IH → R (List IV)) : EM := fun env h => (f env h).bind fun xs h1 => if xs.length ≤ sizeLine then .ok (.tup xs) h1 else .bad
def lLst (f : IEnv → IH → R (List IV)) : IEnv → IH → R (List IV) := fun env h => (f env h).bind fun xs h1 => if xs.length ≤ sizeLine then .ok xs h1 else .bad
/-- a fresh list into the small heap -/
def eNew (f : IEnv → IH → R (List IV)) : EM := fun env h => (f env h).bind fun xs h1 => .ok (.ref h1.length) (h1 ++ [.lst xs])
/-- the items of a list or a tuple -/
def items (h : IH) : IV → Option (List IV)
  | .tup xs => some xs
  | .scr ns => some (ns.map .int)
  | .ref k => match h[k]? with
    | some (.lst xs) => some xs
    | _ => none
  | _ => none
def qV (f : EM) : IEnv → IH → R (List IV) := fun env h => (f env h).bind fun x h1 => match items h1 x with
  | some xs => .ok xs h1
  | none => .bad
def eTuple (f : IEnv → IH → R (List IV)) : EM := fun env h => (f env h).bind fun xs h1 => .ok (.tup xs) h1
def eLen (f : IEnv → IH → R (List IV)) : EM := fun env h => (f env h).bind fun xs h1 => .ok (.int xs.length) h1

def bAdd : IV → IV → IH → R IV
  | .int i, .int j, h => .ok (.int (i + j)) h
  | .str a, .str b, h => if a.length + b.length ≤ sizeLine then .ok (.str (a ++ b)) h else .bad
  | .tup xs, .tup ys, h => if xs.length + ys.length ≤ sizeLine then .ok (.tup (xs ++ ys)) h else .bad
  | _, _, _ => .bad
def bSub : IV → IV → IH → R IV
  | .int i, .int j, h => .ok (.int (i - j)) h
  | _, _, _ => .bad
def bMul : IV → IV → IH → R IV
  | .int i, .int j, h => if ((-(2 ^ 64) < i ∧ i < 2 ^ 64) ∨ (-(2 ^ 64) < j ∧ j < 2 ^ 64)) ∨ i.natAbs.log2 + j.natAbs.log2 < 1000000 then .ok (.int (i * j)) h else .bad
  | _, _, _ => .bad
def bDiv : IV → IV → IH → R IV
  | .int i, .int j, h => if 0 < j ∧ j.natAbs.log2 < 9000 then .ok (.int (i / j)) h else .bad
  | _, _, _ => .bad
def bMod : IV → IV → IH → R IV
  | .int i, .int j, h => if 0 < j then .ok (.int (i % j)) h else .bad
  | _, _, _ => .bad
def bPow : IV → IV → IH → R IV
  | .int i, .int j, h => if 0 ≤ j ∧ j ≤ 1000000 ∧ i.natAbs < 2 ^ 64 then .ok (.int (i ^ j.toNat)) h else .bad
  | _, _, _ => .bad
def uNeg : IV → IH → R IV
  | .int i, h => .ok (.int (-i)) h
  | _, _ => .bad
def bIx : IV → IV → IH → R IV
  | x, .int i, h => match items h x with
    | some xs => match atI xs i with
      | some v => .ok v h
      | none => .bad
    | none => .bad
  | _, _, _ => .bad


/-! ### data -/
def optAll {α β : Type} (f : α → Option β) : List α → Option (List β)
  | [] => some []
  | x :: xs => match f x with
    | some y => match optAll f xs with
      | some ys => some (y :: ys)
      | none => none
    | none => none
def toD (h : IH) : Nat → IV → Option PyData
  | 0, _ => none
  | n + 1, x => match x with
    | .non => some .none
    | .bl b => some (.bool b)
    | .int i => some (.int i)
    | .str s => some (.str s)
    | .scr ns => some (.list (ns.map .int))
    | .ref k => match h[k]? with
      | some (.lst xs) => (optAll (toD h n) xs).map .list
      | _ => none
    | .tup xs => (optAll (toD h n) xs).map .tuple
/-- both as data that may be compared -/
def twoD (x y : IV) (h : IH) (f : PyData → PyData → R IV) : R IV := match toD h 66 x, toD h 66 y with
  | some d, some e => if SeqAt.shaped d = true ∧ SeqAt.shaped e = true then f d e else .bad
  | _, _ => .bad
def cEq : IV → IV → IH → R IV
  | .int i, .int j, h => .ok (.bl (decide (i = j))) h
  | .str a, .str b, h => .ok (.bl (a == b)) h
  | x, y, h => twoD x y h fun d e => .ok (.bl (PyData.eqv d e)) h
def cNe : IV → IV → IH → R IV
  | .int i, .int j, h => .ok (.bl (!decide (i = j))) h
  | .str a, .str b, h => .ok (.bl (!(a == b))) h
  | x, y, h => twoD x y h fun d e => .ok (.bl (!PyData.eqv d e)) h
/-- the ints that stand in a row -/
def intsOf (xs : List IV) : Option (List Int) := optAll (fun x => match x with
  | .int i => some i
  | _ => none) xs
def cLt : IV → IV → IH → R IV
  | .int i, .int j, h => .ok (.bl (decide (i < j))) h
  | .tup xs, .tup ys, h => match intsOf xs, intsOf ys with
    | some ns, some ms => .ok (.bl (HT.lexLt ns ms)) h
    | _, _ => .bad
  | _, _, _ => .bad
def cLe : IV → IV → IH → R IV
  | .int i, .int j, h => .ok (.bl (decide (i ≤ j))) h
  | _, _, _ => .bad
def cGt : IV → IV → IH → R IV
  | .int i, .int j, h => .ok (.bl (decide (j < i))) h
  | _, _, _ => .bad
def cGe : IV → IV → IH → R IV
  | .int i, .int j, h => .ok (.bl (decide (j ≤ i))) h
  | _, _, _ => .bad
def isN : IV → Bool
  | .non => true
  | _ => false
def cIs : IV → IV → IH → R IV
  | x, .non, h => .ok (.bl (isN x)) h
  | .bl a, .bl b, h => .ok (.bl (decide (a = b))) h
  | _, _, _ => .bad
def cIsnt : IV → IV → IH → R IV
  | x, .non, h => .ok (.bl (!isN x)) h
  | .bl a, .bl b, h => .ok (.bl (!decide (a = b))) h
  | _, _, _ => .bad
def flat : IV → Bool
  | .non => true
  | .bl _ => true
  | .int _ => true
  | .str _ => true
  | _ => false
def eqF : IV → IV → Bool
  | .non, .non => true
  | .bl a, .bl b => a == b
  | .bl a, .int b => (if a then 1 else 0) == b
  | .int a, .bl b => a == (if b then 1 else 0)
  | .int a, .int b => a == b
  | .str a, .str b => a == b
  | _, _ => false
def memB (x : IV) (xs : List IV) : Bool := xs.any fun y => eqF y x
def inItems (x y : IV) (h : IH) (f : Bool → R IV) : R IV := match items h y with
  | some xs => if flat x = true ∧ xs.all flat = true then f (memB x xs) else match y with
    | .ref _ => twoD x y h fun d e => match e with
      | .list ds => f (ds.any fun z => PyData.eqv z d)
      | _ => .bad
    | _ => .bad
  | none => match x, y with
    | .str a, .str b => f (!(Builtin.Str.occurrences b a 0 b.length 1).isEmpty)
    | _, _ => .bad
def cIn : IV → IV → IH → R IV := fun x y h => inItems x y h fun b => .ok (.bl b) h
def cNin : IV → IV → IH → R IV := fun x y h => inItems x y h fun b => .ok (.bl (!b)) h

/-! ### tests -/
def toB (f : EM) : IEnv → IH → R Bool := fun env h => (f env h).bind fun x h1 => match x with
  | .bl b => .ok b h1
  | _ => .bad
def tAndM (f g : IEnv → IH → R Bool) : IEnv → IH → R Bool := fun env h => (f env h).bind fun b h1 => if b = true then g env h1 else .ok false h1
def tOrM (f g : IEnv → IH → R Bool) : IEnv → IH → R Bool := fun env h => (f env h).bind fun b h1 => if b = true then .ok true h1 else g env h1
def tNotM (f : IEnv → IH → R Bool) : IEnv → IH → R Bool := fun env h => (f env h).bind fun b h1 => .ok (!b) h1
/-- a bool as a value, by a test's answer -/
def vB (f : IEnv → IH → R Bool) : EM := fun env h => (f env h).bind fun b h1 => .ok (.bl b) h1
def eAnd (f g : EM) : EM := fun env h => (f env h).bind fun x h1 => match x with
  | .bl b => if b = true then g env h1 else .ok (.bl false) h1
  | _ => .bad
def eOr (f g : EM) : EM := fun env h => (f env h).bind fun x h1 => match x with
  | .bl b => if b = true then .ok (.bl true) h1 else g env h1
  | _ => .bad
def eNot (f : EM) : EM := fun env h => (f env h).bind fun x h1 => match x with
  | .bl b => .ok (.bl (!b)) h1
  | _ => .bad
def eIf (c : IEnv → IH → R Bool) (f g : EM) : EM := fun env h => (c env h).bind fun b h1 => if b = true then f env h1 else g env h1
def eChain (o o' : IV → IV → IH → R IV) (f g k : EM) : EM := fun env h => (f env h).bind fun x h1 => (g env h1).bind fun y h2 => (o x y h2).bind fun z h3 => match z with
  | .bl b => if b = true then (k env h3).bind fun w h4 => o' y w h4 else .ok (.bl false) h3
  | _ => .bad
/-- the truth of a value -/
def truth : IV → IH → R Bool
  | .non, h => .ok false h
  | .bl b, h => .ok b h
  | .int i, h => .ok (i != 0) h
  | .str s, h => if s.length ≤ sizeLine then .ok ((s.length : Int) != 0) h else .bad
  | x, h => match items h x with
    | some xs => .ok (!xs.isEmpty) h
    | none => .bad
def toTru (f : EM) : IEnv → IH → R Bool := fun env h => (f env h).bind truth

/-! ### slices -/
def oN : IEnv → IH → R (Option Int) := fun _ h => .ok none h
def oS (f : EM) : IEnv → IH → R (Option Int) := fun env h => (f env h).bind fun x h1 => match x with
  | .int i => .ok (some i) h1
  | _ => .bad
def cut {α : Type} (xs : List α) (lo hi : Option Int) : List α := (xs.drop (HT.sIx xs.length 0 lo)).take (HT.sIx xs.length xs.length hi - HT.sIx xs.length 0 lo)
/-- a slice of a tuple -/
def eCutT (f : EM) (lo hi : IEnv → IH → R (Option Int)) : EM := fun env h => (f env h).bind fun x h1 => (lo env h1).bind fun l h2 => (hi env h2).bind fun u h3 => match x with
  | .tup xs => .ok (.tup (cut xs l u)) h3
  | _ => .bad
/-- a slice of a list: a fresh list -/
def lCut (f : EM) (lo hi : IEnv → IH → R (Option Int)) : IEnv → IH → R (List IV) := fun env h => (f env h).bind fun x h1 => (lo env h1).bind fun l h2 => (hi env h2).bind fun u h3 => match x with
  | .tup _ => .bad
  | x => match items h3 x with
    | some xs => .ok (cut xs l u) h3
    | none => .bad
/-- list + list, list * int: fresh -/
def lCat (f g : IEnv → IH → R (List IV)) : IEnv → IH → R (List IV) := fun env h => (f env h).bind fun xs h1 => (g env h1).bind fun ys h2 => if xs.length + ys.length ≤ sizeLine then .ok (xs ++ ys) h2 else .bad
def lRep (f : IEnv → IH → R (List IV)) (g : EM) : IEnv → IH → R (List IV) := fun env h => (f env h).bind fun xs h1 => (g env h1).bind fun y h2 => match y with
  | .int k => if -(2 ^ 63) ≤ k ∧ k < 2 ^ 63 ∧ xs.length * k.toNat ≤ sizeLine then .ok (List.replicate k.toNat xs).flatten h2 else .bad
  | _ => .bad
/-- list(..) of a list or a tuple -/
def lOf (f : IEnv → IH → R (List IV)) : IEnv → IH → R (List IV) := f

/-! ### general rules -/
section
variable {X : Cx} {C : Cc} {W : WX}

def OpM (X : Cx) (C : Cc) (g : Value → Value → Sem Value) (o : IV → IV → IH → R IV) : Prop :=
  ∃ r, OpR X g r ∧ ∀ (W : WX) (σ : St) m H h x y u v (Q : VK), SR X.K m H h → VR X.K m H x u → VR X.K m H y v → Post C X.K W σ m H (rV X.K) Q (o x y h) → r u v H Q

theorem m_var {i : Nat} {x : Str} {pos : Pos} (hN : X.N[i]? = some x) (hv : Vis X.env.scope x) (hd : (x == ("__debug__" : Str)) = false) (hcd : (x == ("__classdict__" : Str)) = false) : PE X (.Name x pos) (tE C X.K W (eVar i)) :=
  pe_weak (pe_var hN hv hd hcd) fun σ H Q ⟨m, env, h, er, sr, p⟩ => by
    unfold eVar at p
    cases e : env[i]? with
    | none => rw [e] at p; exact p.elim
    | some o =>
      cases o with
      | none => rw [e] at p; exact p.elim
      | some v =>
        rw [e] at p
        obtain ⟨u, h1, r⟩ := er.at_ i v e
        exact ⟨u, h1, p.here sr r⟩
theorem m_k {e : Expr} {x : IV} {v : V} (he : PE X e (tC v)) (r : ∀ m H, VR X.K m H x v) : PE X e (tE C X.K W (eK x)) :=
  pe_weak he fun σ H Q ⟨m, env, h, er, sr, p⟩ => p.here sr (r m H)
theorem m_int {i : Int} {j pos} : PE X (.Constant (.int i) j pos) (tE C X.K W (eK (.int i))) := m_k pe_int fun _ _ => by simp only [rV, VR]
theorem m_bl {i : Bool} {j pos} : PE X (.Constant (.bool i) j pos) (tE C X.K W (eK (.bl i))) := m_k pe_bl fun _ _ => by simp only [rV, VR]
theorem m_non {j pos} : PE X (.Constant .none j pos) (tE C X.K W (eK .non)) := m_k pe_non fun _ _ => by simp only [rV, VR]
theorem m_str {x : Str} {j pos} : PE X (.Constant (.str x) j pos) (tE C X.K W (eK (.str x))) := m_k pe_str fun _ _ => by simp only [rV, VR]

theorem e2_run {o : IV → IV → IH → R IV} {f g : EM} {r : R2} {σ : St} {H : Hp} {Q : VK} (hr : ∀ m H h x y u v (Q : VK), SR X.K m H h → VR X.K m H x u → VR X.K m H y v → Post C X.K W σ m H (rV X.K) Q (o x y h) → r u v H Q)
    (t : tE C X.K W (e2 o f g) σ H Q) : tOp r (tE C X.K W f) (tE C X.K W g) σ H Q := by
  obtain ⟨m, env, h, er, sr, p⟩ := t
  refine ⟨m, env, h, er, sr, tg_run p fun m1 H1 x h1 u g1 s1 r1 p1 => ?_⟩
  refine ⟨m1, env, h1, er.mono g1, s1, tg_run p1 fun m2 H2 y h2 v g2 s2 r2 p2 => ?_⟩
  exact hr m2 H2 h2 x y u v Q s2 (VR.mono g2 _ _ r1) r2 p2
theorem m_op {op : Operator} {o : IV → IV → IH → R IV} {a b : Expr} {f g : EM} {pos : Pos} (ho : OpM X C (binaryOp op) o) (ha : PE X a (tE C X.K W f)) (hb : PE X b (tE C X.K W g)) : PE X (.BinOp a op b pos) (tE C X.K W (e2 o f g)) := by
  obtain ⟨r, h1, h2⟩ := ho
  exact pe_weak (pe_op h1 ha hb) fun σ H Q t => e2_run (h2 W σ) t

theorem post_int {σ : St} {m : List Addr} {H : Hp} {h : IH} {Q : VK} {i : Int} (s : SR X.K m H h) (p : Post C X.K W σ m H (rV X.K) Q (.ok (.int i) h)) : Q (.int i) H := p.here s (by simp only [rV, VR])
theorem post_bl {σ : St} {m : List Addr} {H : Hp} {h : IH} {Q : VK} {i : Bool} (s : SR X.K m H h) (p : Post C X.K W σ m H (rV X.K) Q (.ok (.bl i) h)) : Q (.bl i) H := p.here s (by simp only [rV, VR])
theorem post_str {σ : St} {m : List Addr} {H : Hp} {h : IH} {Q : VK} {i : Str} (s : SR X.K m H h) (p : Post C X.K W σ m H (rV X.K) Q (.ok (.str i) h)) : Q (.str i) H := p.here s (by simp only [rV, VR])
theorem post_tup {σ : St} {m : List Addr} {H : Hp} {h : IH} {Q : VK} {xs : List IV} {vs : List V} (s : SR X.K m H h) (p : Post C X.K W σ m H (rV X.K) Q (.ok (.tup xs) h)) (r : VRs X.K m H xs vs) {a : Addr} {ob : Obj} (ha : H a = none) (hd : ob.dict = none) : Q (.ref a) (upd H a (.frz ob (.tup vs))) :=
  p m _ _ (Go.laid ha) (s.laid ha) (VR.newTup ha hd r)

theorem om_add : OpM X C (binaryOp .Add) bAdd := by
  refine ⟨_, op_add.or (op_add_str.or op_catN), fun W σ m H h x y u v Q s rx ry p => ?_⟩
  unfold bAdd at p
  split at p
  · simp only [rV, VR] at rx ry
    subst rx; subst ry
    exact .inl ⟨_, _, rfl, rfl, post_int s p⟩
  · simp only [rV, VR] at rx ry
    subst rx; subst ry
    split at p
    · exact .inr (.inl ⟨_, _, rfl, rfl, by assumption, post_str s p⟩)
    · exact p.elim
  · split at p
    · rename_i hz
      simp only [rV, VR] at rx ry
      obtain ⟨a, vs, rfl, ta, ra⟩ := rx
      obtain ⟨b, ws, rfl, tb, rb⟩ := ry
      rw [ra.length, rb.length] at hz
      refine .inr (.inr ⟨a, b, vs, ws, rfl, rfl, ta.sq, tb.sq, hz, fun e => ?_, fun _ e => ?_, fun _ _ q ob hq hd => post_tup s p (VRs.append ra rb) hq hd⟩)
      · refine p.here s ?_
        subst e
        simp only [rV, VR]
        exact ⟨b, ws, rfl, tb, by simpa using VRs.append ra rb⟩
      · refine p.here s ?_
        subst e
        simp only [rV, VR]
        exact ⟨a, vs, rfl, ta, by simpa using VRs.append ra rb⟩
    · exact p.elim
  · exact p.elim
theorem om_sub : OpM X C (binaryOp .Sub) bSub := by
  refine ⟨_, op_sub, fun W σ m H h x y u v Q s rx ry p => ?_⟩
  unfold bSub at p
  split at p
  · simp only [rV, VR] at rx ry
    subst rx; subst ry
    exact ⟨_, _, rfl, rfl, post_int s p⟩
  · exact p.elim
theorem om_mod : OpM X C (binaryOp .Mod) bMod := by
  refine ⟨_, op_mod, fun W σ m H h x y u v Q s rx ry p => ?_⟩
  unfold bMod at p
  split at p
  · simp only [rV, VR] at rx ry
    subst rx; subst ry
    split at p
    · exact ⟨_, _, rfl, rfl, by assumption, post_int s p⟩
    · exact p.elim
  · exact p.elim
theorem om_pow : OpM X C (binaryOp .Pow) bPow := by
  refine ⟨_, op_pow, fun W σ m H h x y u v Q s rx ry p => ?_⟩
  unfold bPow at p
  split at p
  · simp only [rV, VR] at rx ry
    subst rx; subst ry
    split at p
    · exact ⟨_, _, rfl, rfl, by assumption, post_int s p⟩
    · exact p.elim
  · exact p.elim

/-! ### data -/
theorem optAll_cons {α β : Type} {f : α → Option β} {x : α} {xs : List α} {r : List β} (h : optAll f (x :: xs) = some r) : ∃ y ys, f x = some y ∧ optAll f xs = some ys ∧ r = y :: ys := by
  unfold optAll at h
  split at h
  · rename_i y hy
    split at h
    · rename_i ys hys
      cases h
      exact ⟨y, ys, hy, hys, rfl⟩
    · cases h
  · cases h
theorem dp_ints {K : PySem.W.Frag} {H : Hp} : ∀ (ns : List Int), DpAll K H (ns.map V.int) (ns.map PyData.int)
  | [] => .nil
  | n :: ns => .cons (.int n) (dp_ints ns)
theorem toD_dp {K : PySem.W.Frag} {m : List Addr} {H : Hp} {h : IH} (s : SR K m H h) : ∀ (n : Nat) (x : IV) (v : V) (d : PyData), VR K m H x v → toD h n x = some d → Dp K H v d
  | 0, _, _, _, _, e => by cases e
  | n + 1, x, v, d, r, e => by
    have all : ∀ (xs : List IV) (vs : List V) (ds : List PyData), VRs K m H xs vs → optAll (toD h n) xs = some ds → DpAll K H vs ds := by
      intro xs
      induction xs with
      | nil =>
        intro vs ds r e
        simp only [rVs, VRs] at r
        subst r
        cases e
        exact .nil
      | cons y ys ih =>
        intro vs ds r e
        simp only [rVs, VRs] at r
        obtain ⟨u, q, rfl, r1, r2⟩ := r
        obtain ⟨d1, d2, e1, e2, rfl⟩ := optAll_cons e
        exact .cons (toD_dp s n y u d1 r1 e1) (ih _ _ r2 e2)
    cases x with
    | non => simp only [rV, VR] at r; subst r; cases e; exact .non
    | bl b => simp only [rV, VR] at r; subst r; cases e; exact .bl b
    | int i => simp only [rV, VR] at r; subst r; cases e; exact .int i
    | str x => simp only [rV, VR] at r; subst r; cases e; exact .str x
    | scr ns =>
      simp only [rV, VR] at r
      obtain ⟨a, rfl, q⟩ := r
      cases e
      exact .lst q.list (dp_ints ns)
    | ref k =>
      simp only [rV, VR] at r
      obtain ⟨a, e1, rfl⟩ := r
      simp only [toD] at e
      split at e
      · rename_i xs hk
        obtain ⟨a', vs, e2, q, rr⟩ := s.get hk
        rw [e1] at e2; cases e2
        cases hd : optAll (toD h n) xs with
        | none => rw [hd] at e; cases e
        | some ds =>
          rw [hd] at e; cases e
          exact .lst (.of q) (all _ _ _ rr hd)
      · cases e
    | tup xs =>
      simp only [rV, VR] at r
      obtain ⟨a, vs, rfl, t, rr⟩ := r
      simp only [toD] at e
      cases hd : optAll (toD h n) xs with
      | none => rw [hd] at e; cases e
      | some ds =>
        rw [hd] at e; cases e
        exact .tup t.sq (all _ _ _ rr hd)
/-- the items of a list or tuple, read -/
theorem items_rd {K : PySem.W.Frag} {m : List Addr} {H : Hp} {h : IH} (s : SR K m H h) {x : IV} {v : V} {xs : List IV} (r : VR K m H x v) (e : items h x = some xs) :
    ∃ a vs, v = .ref a ∧ (SqL K H a vs ∨ SqN K H a vs) ∧ VRs K m H xs vs := by
  cases x with
  | tup ys =>
    simp only [rV, VR] at r
    obtain ⟨a, vs, rfl, t, rr⟩ := r
    cases e
    exact ⟨a, vs, rfl, .inr t, rr⟩
  | scr ns =>
    simp only [rV, VR] at r
    obtain ⟨a, rfl, q⟩ := r
    cases e
    exact ⟨a, _, rfl, .inl q.list, VRs.of_ints ns⟩
  | ref k =>
    simp only [rV, VR] at r
    obtain ⟨a, e1, rfl⟩ := r
    simp only [items] at e
    split at e
    · rename_i ys hk
      cases e
      obtain ⟨a', vs, e2, q, rr⟩ := s.get hk
      rw [e1] at e2; cases e2
      exact ⟨a, vs, rfl, .inl (.of q), rr⟩
    · cases e
  | non => cases e
  | bl _ => cases e
  | int _ => cases e
  | str _ => cases e
theorem pe_qV {e : Expr} {f : EM} (he : PE X e (tE C X.K W f)) : PE X e (tSq C X.K W (qV f)) :=
  pe_weak he fun σ H Q ⟨m, env, h, er, sr, p⟩ => ⟨m, env, h, er, sr, tg_run p fun m1 H1 x h1 u g1 s1 r1 p1 => by
    cases hi : items h1 x with
    | none => rw [hi] at p1; exact p1.elim
    | some xs =>
      rw [hi] at p1
      exact p1.here s1 (items_rd s1 r1 hi)⟩
theorem pe_qL {e : Expr} {f : IEnv → IH → R (List IV)} (he : PE X e (tL C X.K W f)) : PE X e (tSq C X.K W f) :=
  pe_weak he fun σ H Q ⟨m, env, h, er, sr, p⟩ => ⟨m, env, h, er, sr, by
    cases hf : f env h with
    | ok xs h1 =>
      rw [hf] at p
      exact fun m1 H1 u g1 s1 ⟨a, vs, e, n, _, q, rr⟩ => p m1 H1 u g1 s1 ⟨a, vs, e, .inl (.of q), rr⟩
    | exc x h1 => rw [hf] at p; exact p
    | bad => rw [hf] at p; exact p⟩

/-! ### comparisons -/
theorem two_run {σ : St} {m : List Addr} {H : Hp} {h : IH} {Q : VK} {x y : IV} {u v : V} {f : PyData → PyData → R IV} (s : SR X.K m H h) (rx : VR X.K m H x u) (ry : VR X.K m H y v) (p : Post C X.K W σ m H (rV X.K) Q (twoD x y h f)) :
    ∃ d e, Dp X.K H u d ∧ Dp X.K H v e ∧ SeqAt.shaped d = true ∧ SeqAt.shaped e = true ∧ Post C X.K W σ m H (rV X.K) Q (f d e) := by
  unfold twoD at p
  split at p
  · rename_i d e hd he
    split at p
    · rename_i hs
      exact ⟨d, e, toD_dp s _ _ _ _ rx hd, toD_dp s _ _ _ _ ry he, hs.1, hs.2, p⟩
    · exact p.elim
  · exact p.elim
theorem om_eq (hu : X.A.units + 64 < cLine) : OpM X C (compareOp .Eq) cEq := by
  refine ⟨_, op_eq.or (op_eqD hu), fun W σ m H h x y u v Q s rx ry p => ?_⟩
  unfold cEq at p
  split at p
  · simp only [rV, VR] at rx ry
    subst rx; subst ry
    refine .inl ⟨rfl, ?_⟩
    rw [dec_int, Bool.beq_eq_decide_eq]
    exact post_bl s p
  · simp only [rV, VR] at rx ry
    subst rx; subst ry
    refine .inl ⟨rfl, ?_⟩
    rw [dec_str]
    exact post_bl s p
  · obtain ⟨d, e, hd, he, s1, s2, p2⟩ := two_run s rx ry p
    exact .inr ⟨d, e, hd, he, s1, s2, post_bl s p2⟩
theorem om_ne (hu : X.A.units + 64 < cLine) : OpM X C (compareOp .NotEq) cNe := by
  refine ⟨_, op_ne.or (op_neD hu), fun W σ m H h x y u v Q s rx ry p => ?_⟩
  unfold cNe at p
  split at p
  · simp only [rV, VR] at rx ry
    subst rx; subst ry
    refine .inl ⟨rfl, ?_⟩
    rw [dec_int, Bool.beq_eq_decide_eq]
    exact post_bl s p
  · simp only [rV, VR] at rx ry
    subst rx; subst ry
    refine .inl ⟨rfl, ?_⟩
    rw [dec_str]
    exact post_bl s p
  · obtain ⟨d, e, hd, he, s1, s2, p2⟩ := two_run s rx ry p
    exact .inr ⟨d, e, hd, he, s1, s2, post_bl s p2⟩
theorem intsOf_map : ∀ {xs : List IV} {ns : List Int}, intsOf xs = some ns → xs = ns.map IV.int
  | [], ns, e => by cases e; rfl
  | x :: xs, ns, e => by
    obtain ⟨y, ys, e1, e2, rfl⟩ := optAll_cons e
    have ih := intsOf_map (xs := xs) (ns := ys) e2
    cases x with
    | int i => cases e1; rw [ih]; rfl
    | non => cases e1
    | bl _ => cases e1
    | str _ => cases e1
    | scr _ => cases e1
    | ref _ => cases e1
    | tup _ => cases e1
theorem om_lt (hu : X.A.units < cLine) : OpM X C (compareOp .Lt) cLt := by
  refine ⟨_, op_lt.or (op_ltT hu), fun W σ m H h x y u v Q s rx ry p => ?_⟩
  unfold cLt at p
  split at p
  · simp only [rV, VR] at rx ry
    subst rx; subst ry
    exact .inl ⟨_, _, rfl, rfl, post_bl s p⟩
  · split at p
    · rename_i ns ms hn hm
      simp only [rV, VR] at rx ry
      obtain ⟨a, vs, rfl, t1, r1⟩ := rx
      obtain ⟨b, ws, rfl, t2, r2⟩ := ry
      rw [intsOf_map hn] at r1
      rw [intsOf_map hm] at r2
      rw [VRs.ints r1] at t1
      rw [VRs.ints r2] at t2
      exact .inr ⟨a, b, ns, ms, rfl, rfl, t1.sq, t2.sq, post_bl s p⟩
    · exact p.elim
  · exact p.elim
theorem om_le : OpM X C (compareOp .LtE) cLe := by
  refine ⟨_, op_le, fun W σ m H h x y u v Q s rx ry p => ?_⟩
  unfold cLe at p
  split at p
  · simp only [rV, VR] at rx ry
    subst rx; subst ry
    exact ⟨_, _, rfl, rfl, post_bl s p⟩
  · exact p.elim
theorem om_gt : OpM X C (compareOp .Gt) cGt := by
  refine ⟨_, op_gt, fun W σ m H h x y u v Q s rx ry p => ?_⟩
  unfold cGt at p
  split at p
  · simp only [rV, VR] at rx ry
    subst rx; subst ry
    exact ⟨_, _, rfl, rfl, post_bl s p⟩
  · exact p.elim
theorem om_ge : OpM X C (compareOp .GtE) cGe := by
  refine ⟨_, op_ge, fun W σ m H h x y u v Q s rx ry p => ?_⟩
  unfold cGe at p
  split at p
  · simp only [rV, VR] at rx ry
    subst rx; subst ry
    exact ⟨_, _, rfl, rfl, post_bl s p⟩
  · exact p.elim
theorem isN_of {K : PySem.W.Frag} {m : List Addr} {H : Hp} {x : IV} {u : V} (r : VR K m H x u) : decide (u = V.non) = isN x := by
  cases x <;> simp only [rV, VR] at r
  case non => subst r; rfl
  case bl => subst r; rfl
  case int => subst r; rfl
  case str => subst r; rfl
  case scr => obtain ⟨a, rfl, _⟩ := r; rfl
  case ref => obtain ⟨a, _, rfl⟩ := r; rfl
  case tup => obtain ⟨a, _, rfl, _⟩ := r; rfl
theorem om_is : OpM X C (compareOp .Is) cIs := by
  refine ⟨_, op_isN.or op_isBl, fun W σ m H h x y u v Q s rx ry p => ?_⟩
  unfold cIs at p
  split at p
  · have e := isN_of rx
    simp only [rV, VR] at ry
    refine .inl ⟨ry, ?_⟩
    rw [e]
    exact post_bl s p
  · simp only [rV, VR] at rx ry
    subst rx; subst ry
    exact .inr ⟨_, _, rfl, rfl, post_bl s p⟩
  · exact p.elim
theorem om_isnt : OpM X C (compareOp .IsNot) cIsnt := by
  refine ⟨_, op_notN.or op_notBl, fun W σ m H h x y u v Q s rx ry p => ?_⟩
  unfold cIsnt at p
  split at p
  · have e := isN_of rx
    simp only [rV, VR] at ry
    refine .inl ⟨ry, ?_⟩
    rw [e]
    exact post_bl s p
  · simp only [rV, VR] at rx ry
    subst rx; subst ry
    exact .inr ⟨_, _, rfl, rfl, post_bl s p⟩
  · exact p.elim
theorem flat_of {K : PySem.W.Frag} {m : List Addr} {H : Hp} {x : IV} {u : V} (r : VR K m H x u) (f : flat x = true) : flatV u = true := by
  cases x <;> simp only [rV, VR] at r <;> first | (subst r; rfl) | cases f
theorem flats_of {K : PySem.W.Frag} {m : List Addr} {H : Hp} : ∀ {xs : List IV} {us : List V}, VRs K m H xs us → xs.all flat = true → us.all flatV = true
  | [], _, r, _ => by simp only [rVs, VRs] at r; subst r; rfl
  | x :: xs, _, r, f => by
    simp only [rVs, VRs] at r
    obtain ⟨v, q, rfl, r1, r2⟩ := r
    simp only [List.all_cons, Bool.and_eq_true] at f ⊢
    exact ⟨flat_of r1 f.1, flats_of r2 f.2⟩
theorem eqF_of {K : PySem.W.Frag} {m : List Addr} {H : Hp} {x y : IV} {u v : V} (r : VR K m H x u) (r' : VR K m H y v) (f : flat x = true) (f' : flat y = true) : eqV u v = eqF x y := by
  cases x <;> first | cases f | skip
  all_goals (cases y <;> first | cases f' | skip)
  all_goals (simp only [rV, VR] at r r'; subst r; subst r'; rfl)
theorem memB_of {K : PySem.W.Frag} {m : List Addr} {H : Hp} {x : IV} {u : V} (r : VR K m H x u) (f : flat x = true) : ∀ {xs : List IV} {us : List V}, VRs K m H xs us → xs.all flat = true → inV u us = memB x xs
  | [], _, r', _ => by simp only [rVs, VRs] at r'; subst r'; rfl
  | y :: xs, _, r', f' => by
    simp only [rVs, VRs] at r'
    obtain ⟨v, q, rfl, r1, r2⟩ := r'
    simp only [List.all_cons, Bool.and_eq_true] at f'
    have ih := memB_of r f r2 f'.2
    unfold inV memB at *
    simp only [List.any_cons, ih, eqF_of r1 r f'.1 f]
theorem in_run {σ : St} {m : List Addr} {H : Hp} {h : IH} {Q : VK} {x y : IV} {u v : V} {f : Bool → Bool} (s : SR X.K m H h) (rx : VR X.K m H x u) (ry : VR X.K m H y v) (p : Post C X.K W σ m H (rV X.K) Q (inItems x y h fun b => .ok (.bl (f b)) h)) :
    (∃ a us, v = .ref a ∧ (SqL X.K H a us ∨ SqT X.K H a us) ∧ flatV u = true ∧ us.all flatV = true ∧ Q (.bl (f (inV u us))) H) ∨
    (∃ d ds, Dp X.K H u d ∧ Dp X.K H v (.list ds) ∧ SeqAt.shaped d = true ∧ SeqAt.shaped (.list ds) = true ∧ Q (.bl (f (ds.any fun z => PyData.eqv z d))) H) ∨
    (∃ i j, u = .str i ∧ v = .str j ∧ Q (.bl (f (!(Builtin.Str.occurrences j i 0 j.length 1).isEmpty))) H) := by
  unfold inItems at p
  cases hi : items h y with
  | some xs =>
    rw [hi] at p
    simp only at p
    split at p
    · rename_i hf
      obtain ⟨a, us, rfl, q, rr⟩ := items_rd s ry hi
      refine .inl ⟨a, us, rfl, q.imp id SqN.sq, flat_of rx hf.1, flats_of rr hf.2, ?_⟩
      rw [memB_of rx hf.1 rr hf.2]
      exact post_bl s p
    · split at p
      · obtain ⟨d, e, hd, he, s1, s2, p2⟩ := two_run s rx ry p
        split at p2
        · exact .inr (.inl ⟨d, _, hd, he, s1, s2, post_bl s p2⟩)
        · exact p2.elim
      · exact p.elim
  | none =>
    rw [hi] at p
    simp only at p
    split at p
    · simp only [rV, VR] at rx ry
      subst rx; subst ry
      exact .inr (.inr ⟨_, _, rfl, rfl, post_bl s p⟩)
    · exact p.elim
theorem om_in (hu : X.A.units + 65 < cLine) : OpM X C (compareOp .In) cIn := by
  refine ⟨_, op_in_seq.or ((op_inD hu).or op_in_str), fun W σ m H h x y u v Q s rx ry p => ?_⟩
  rcases in_run (f := fun b => b) s rx ry p with ⟨a, us, rfl, q, f1, f2, z⟩ | ⟨d, ds, z⟩ | ⟨i, j, z⟩
  · exact .inl ⟨a, us, rfl, q, f1, f2, z⟩
  · exact .inr (.inl ⟨d, ds, z⟩)
  · exact .inr (.inr ⟨i, j, z⟩)
theorem om_nin (hu : X.A.units + 65 < cLine) : OpM X C (compareOp .NotIn) cNin := by
  refine ⟨_, op_notIn_seq.or ((op_notInD hu).or op_notIn_str), fun W σ m H h x y u v Q s rx ry p => ?_⟩
  rcases in_run (f := fun b => !b) s rx ry p with ⟨a, us, rfl, q, f1, f2, z⟩ | ⟨d, ds, z⟩ | ⟨i, j, z⟩
  · exact .inl ⟨a, us, rfl, q, f1, f2, z⟩
  · exact .inr (.inl ⟨d, ds, z⟩)
  · exact .inr (.inr ⟨i, j, z⟩)
theorem m_cmp {op : CmpOp} {o : IV → IV → IH → R IV} {a b : Expr} {f g : EM} {pos : Pos} (ho : OpM X C (compareOp op) o) (ha : PE X a (tE C X.K W f)) (hb : PE X b (tE C X.K W g)) (hm : behindInMarks op b = false) :
    PE X (.Compare a [op] [b] pos) (tE C X.K W (e2 o f g)) := by
  obtain ⟨r, h1, h2⟩ := ho
  exact pe_weak (pe_cmpR h1 ha hb hm) fun σ H Q t => e2_run (h2 W σ) t
theorem toB_run {t : TE} {f : EM} (w : ∀ σ H Q, tE C X.K W f σ H Q → t σ H Q) (σ : St) (H : Hp) (Q : Bool → Hp → Prop) (q : tT C X.K W (toB f) σ H Q) : tTest t σ H Q := by
  obtain ⟨m, env, h, er, sr, p⟩ := q
  refine w _ _ _ ⟨m, env, h, er, sr, tg_run p fun m1 H1 x h1 u g1 s1 r1 p1 => ?_⟩
  cases x <;> first | exact p1.elim | skip
  simp only [rV, VR] at r1
  subst r1
  exact ⟨_, rfl, p1.here s1 rfl⟩
theorem m_cmpT {op : CmpOp} {o : IV → IV → IH → R IV} {a b : Expr} {f g : EM} {pos : Pos} (ho : OpM X C (compareOp op) o) (ha : PE X a (tE C X.K W f)) (hb : PE X b (tE C X.K W g)) (hm : behindInMarks op b = false) :
    PT X (.Compare a [op] [b] pos) (tT C X.K W (toB (e2 o f g))) := by
  obtain ⟨r, h1, h2⟩ := ho
  exact pt_weak (pt_cmpR h1 ha hb hm) (toB_run fun σ H Q t => e2_run (h2 W σ) t)
theorem m_valT {e : Expr} {f : EM} (h : PE X e (tE C X.K W f)) (he : ∀ whole, isTrue e X.env whole = (do let v ← whole; standAt e.pos; holding [v] (truthy v))) : PT X e (tT C X.K W (toB f)) :=
  pt_weak (pt_val h he) (toB_run fun _ _ _ t => t)
theorem chain_run {o o' : IV → IV → IH → R IV} {f g k : EM} {r r' : R2} {σ : St} {H : Hp} {Q : VK}
    (hr : ∀ m H h x y u v (Q : VK), SR X.K m H h → VR X.K m H x u → VR X.K m H y v → Post C X.K W σ m H (rV X.K) Q (o x y h) → r u v H Q)
    (hr' : ∀ m H h x y u v (Q : VK), SR X.K m H h → VR X.K m H x u → VR X.K m H y v → Post C X.K W σ m H (rV X.K) Q (o' x y h) → r' u v H Q)
    (t : tE C X.K W (eChain o o' f g k) σ H Q) : tChain r r' (tE C X.K W f) (tE C X.K W g) (tE C X.K W k) σ H Q := by
  obtain ⟨m, env, h, er, sr, p⟩ := t
  refine ⟨m, env, h, er, sr, tg_run p fun m1 H1 x h1 u g1 s1 r1 p1 => ?_⟩
  refine ⟨m1, env, h1, er.mono g1, s1, tg_run p1 fun m2 H2 y h2 v g2 s2 r2 p2 => ?_⟩
  refine hr m2 H2 h2 x y u v _ s2 (VR.mono g2 _ _ r1) r2 (tg_run p2 fun m3 H3 z h3 w g3 s3 r3 p3 => ?_)
  cases z <;> first | exact p3.elim | skip
  rename_i b
  simp only [rV, VR] at r3
  subst r3
  refine ⟨b, rfl, ?_⟩
  cases b with
  | true =>
    refine iteT ⟨m3, env, h3, (er.mono g1).mono (g2.trans g3), s3, tg_run p3 fun m4 H4 z4 h4 w4 g4 s4 r4 p4 => ?_⟩
    exact hr' m4 H4 h4 y z4 v w4 Q s4 (VR.mono (g3.trans g4) _ _ r2) r4 p4
  | false => exact iteF (post_bl s3 p3)
theorem m_chain {op op' : CmpOp} {o o' : IV → IV → IH → R IV} {a b c : Expr} {f g k : EM} {pos : Pos} (ho : OpM X C (compareOp op) o) (ho' : OpM X C (compareOp op') o') (ha : PE X a (tE C X.K W f)) (hb : PE X b (tE C X.K W g))
    (hc : PE X c (tE C X.K W k)) (hm : lastMarks [op, op'] [b, c] = false) : PE X (.Compare a [op, op'] [b, c] pos) (tE C X.K W (eChain o o' f g k)) := by
  obtain ⟨r, h1, h2⟩ := ho
  obtain ⟨r', h1', h2'⟩ := ho'
  exact pe_weak (pe_chain h1 h1' ha hb hc hm) fun σ H Q t => chain_run (h2 W σ) (h2' W σ) t
theorem m_chainT {op op' : CmpOp} {o o' : IV → IV → IH → R IV} {a b c : Expr} {f g k : EM} {pos : Pos} (ho : OpM X C (compareOp op) o) (ho' : OpM X C (compareOp op') o') (ha : PE X a (tE C X.K W f)) (hb : PE X b (tE C X.K W g))
    (hc : PE X c (tE C X.K W k)) (hm : lastMarks [op, op'] [b, c] = false) : PT X (.Compare a [op, op'] [b, c] pos) (tT C X.K W (toB (eChain o o' f g k))) := by
  obtain ⟨r, h1, h2⟩ := ho
  obtain ⟨r', h1', h2'⟩ := ho'
  exact pt_weak (pt_chain h1 h1' ha hb hc hm) (toB_run fun σ H Q t => chain_run (h2 W σ) (h2' W σ) t)

/-! ### and, or, not, if -/
theorem m_andT {a b : Expr} {rest : List Expr} {f g : IEnv → IH → R Bool} {pos : Pos} (ha : PT X a (tT C X.K W f)) (hb : PW X (.BoolOp .And (b :: rest) pos) (tT C X.K W g)) : PW X (.BoolOp .And (a :: b :: rest) pos) (tT C X.K W (tAndM f g)) :=
  pw_weak (pw_and ha hb) fun σ H Q ⟨m, env, h, er, sr, p⟩ => ⟨m, env, h, er, sr, tg_run p fun m1 H1 x h1 u g1 s1 r1 p1 => by
    subst r1
    cases x with
    | true => exact iteT ⟨m1, env, h1, er.mono g1, s1, p1⟩
    | false => exact iteF (p1.here s1 rfl)⟩
theorem m_orT {a b : Expr} {rest : List Expr} {f g : IEnv → IH → R Bool} {pos : Pos} (ha : PT X a (tT C X.K W f)) (hb : PW X (.BoolOp .Or (b :: rest) pos) (tT C X.K W g)) : PW X (.BoolOp .Or (a :: b :: rest) pos) (tT C X.K W (tOrM f g)) :=
  pw_weak (pw_or ha hb) fun σ H Q ⟨m, env, h, er, sr, p⟩ => ⟨m, env, h, er, sr, tg_run p fun m1 H1 x h1 u g1 s1 r1 p1 => by
    subst r1
    cases x with
    | true => exact iteT (p1.here s1 rfl)
    | false => exact iteF ⟨m1, env, h1, er.mono g1, s1, p1⟩⟩
theorem m_notT {a : Expr} {f : IEnv → IH → R Bool} {pos : Pos} (ha : PT X a (tT C X.K W f)) : PT X (.UnaryOp .Not a pos) (tT C X.K W (tNotM f)) :=
  pt_weak (pt_not ha) fun σ H Q ⟨m, env, h, er, sr, p⟩ => ⟨m, env, h, er, sr, tg_run p fun m1 H1 x h1 u g1 s1 r1 p1 => by
    subst r1
    exact p1.here s1 rfl⟩
theorem m_and {a b : Expr} {rest : List Expr} {f g : EM} {pos : Pos} (ha : PE X a (tE C X.K W f)) (hb : PE X (.BoolOp .And (b :: rest) pos) (tE C X.K W g)) : PE X (.BoolOp .And (a :: b :: rest) pos) (tE C X.K W (eAnd f g)) :=
  pe_weak (pe_and ha hb) fun σ H Q ⟨m, env, h, er, sr, p⟩ => ⟨m, env, h, er, sr, tg_run p fun m1 H1 x h1 u g1 s1 r1 p1 => by
    cases x <;> first | exact p1.elim | skip
    rename_i b
    simp only [rV, VR] at r1
    subst r1
    refine ⟨b, rfl, ?_⟩
    cases b with
    | true => exact iteT ⟨m1, env, h1, er.mono g1, s1, p1⟩
    | false => exact iteF (post_bl s1 p1)⟩
theorem m_or {a b : Expr} {rest : List Expr} {f g : EM} {pos : Pos} (ha : PE X a (tE C X.K W f)) (hb : PE X (.BoolOp .Or (b :: rest) pos) (tE C X.K W g)) : PE X (.BoolOp .Or (a :: b :: rest) pos) (tE C X.K W (eOr f g)) :=
  pe_weak (pe_or ha hb) fun σ H Q ⟨m, env, h, er, sr, p⟩ => ⟨m, env, h, er, sr, tg_run p fun m1 H1 x h1 u g1 s1 r1 p1 => by
    cases x <;> first | exact p1.elim | skip
    rename_i b
    simp only [rV, VR] at r1
    subst r1
    refine ⟨b, rfl, ?_⟩
    cases b with
    | true => exact iteT (post_bl s1 p1)
    | false => exact iteF ⟨m1, env, h1, er.mono g1, s1, p1⟩⟩
theorem m_not {a : Expr} {f : EM} {pos : Pos} (ha : PE X a (tE C X.K W f)) : PE X (.UnaryOp .Not a pos) (tE C X.K W (eNot f)) :=
  pe_weak (pe_not ha) fun σ H Q ⟨m, env, h, er, sr, p⟩ => ⟨m, env, h, er, sr, tg_run p fun m1 H1 x h1 u g1 s1 r1 p1 => by
    cases x <;> first | exact p1.elim | skip
    rename_i b
    simp only [rV, VR] at r1
    subst r1
    exact ⟨b, rfl, post_bl s1 p1⟩⟩
theorem m_if {c a b : Expr} {t : IEnv → IH → R Bool} {f g : EM} {pos : Pos} (hc : PT X c (tT C X.K W t)) (ha : PE X a (tE C X.K W f)) (hb : PE X b (tE C X.K W g)) : PE X (.IfExp c a b pos) (tE C X.K W (eIf t f g)) :=
  pe_weak (pe_ifExp hc ha hb) fun σ H Q ⟨m, env, h, er, sr, p⟩ => ⟨m, env, h, er, sr, tg_run p fun m1 H1 x h1 u g1 s1 r1 p1 => by
    subst r1
    cases x with
    | true => exact iteT ⟨m1, env, h1, er.mono g1, s1, p1⟩
    | false => exact iteF ⟨m1, env, h1, er.mono g1, s1, p1⟩⟩
theorem m_neg {a : Expr} {f : EM} {pos : Pos} (ha : PE X a (tE C X.K W f)) : PE X (.UnaryOp .USub a pos) (tE C X.K W (e1 uNeg f)) :=
  pe_weak (pe_un un_neg ha) fun σ H Q ⟨m, env, h, er, sr, p⟩ => ⟨m, env, h, er, sr, tg_run p fun m1 H1 x h1 u g1 s1 r1 p1 => by
    cases x <;> first | exact p1.elim | skip
    simp only [rV, VR] at r1
    subst r1
    exact ⟨_, rfl, post_int s1 p1⟩⟩

theorem om_mul : OpM X C (binaryOp .Mult) bMul := by
  refine ⟨_, op_mul.or op_mulW, fun W σ m H h x y u v Q s rx ry p => ?_⟩
  unfold bMul at p
  split at p
  · simp only [rV, VR] at rx ry
    subst rx; subst ry
    split at p
    · rename_i hz
      rcases hz with hz | hz
      · exact .inl ⟨_, _, rfl, rfl, hz, post_int s p⟩
      · exact .inr ⟨_, _, rfl, rfl, hz, post_int s p⟩
    · exact p.elim
  · exact p.elim
theorem om_div : OpM X C (binaryOp .FloorDiv) bDiv := by
  refine ⟨_, op_fdivW, fun W σ m H h x y u v Q s rx ry p => ?_⟩
  unfold bDiv at p
  split at p
  · simp only [rV, VR] at rx ry
    subst rx; subst ry
    split at p
    · exact ⟨_, _, rfl, rfl, by assumption, post_int s p⟩
    · exact p.elim
  · exact p.elim

/-! ### items, slices -/
theorem atI_map {α β : Type} {R : α → β → Prop} {xs : List α} {ys : List β} (hl : xs.length = ys.length) (hg : ∀ (i : Nat) x, xs[i]? = some x → ∃ y, ys[i]? = some y ∧ R x y) {i : Int} {x : α} (h : atI xs i = some x) : ∃ y, atI ys i = some y ∧ R x y := by
  unfold atI at h ⊢
  rw [← hl]
  cases e : ixN xs.length i with
  | none => rw [e] at h; cases h
  | some j =>
    rw [e] at h
    exact hg j x h
theorem VRs.atI {K : PySem.W.Frag} {m : List Addr} {H : Hp} {xs : List IV} {vs : List V} (r : VRs K m H xs vs) {i : Int} {x : IV} (h : L2.atI xs i = some x) : ∃ v, L2.atI vs i = some v ∧ VR K m H x v :=
  atI_map r.length (fun i x e => VRs.get r e) h
theorem ix_run {σ : St} {m : List Addr} {H : Hp} {h : IH} {Q : VK} {x y : IV} {u v : V} (s : SR X.K m H h) (rx : VR X.K m H x u) (ry : VR X.K m H y v) (p : Post C X.K W σ m H (rV X.K) Q (bIx x y h)) : rIxL X.K u v H Q ∨ rIxT X.K u v H Q := by
  unfold bIx at p
  split at p
  · rename_i i
    simp only [rV, VR] at ry
    subst ry
    split at p
    · rename_i xs hi
      split at p
      · rename_i z hz
        obtain ⟨a, us, rfl, q, rr⟩ := items_rd s rx hi
        obtain ⟨w, h1, h2⟩ := rr.atI hz
        rcases q with q | q
        · exact .inl ⟨a, us, i, w, rfl, rfl, q, h1, p.here s h2⟩
        · exact .inr ⟨a, us, i, w, rfl, rfl, q.sq, h1, p.here s h2⟩
      · exact p.elim
    · exact p.elim
  · exact p.elim
theorem m_ix {a b : Expr} {f g : EM} {pos : Pos} (ha : PE X a (tE C X.K W f)) (hb : PE X b (tE C X.K W g)) (hs : PlainIx b) : PE X (.Subscript a b pos) (tE C X.K W (e2 bIx f g)) :=
  pe_weak (pe_ix (ix_list.or ix_tup) ha hb hs) fun σ H Q t => e2_run (fun m H h x y u v Q s rx ry p => ix_run s rx ry p) t
/-- a text by place -/
def bIxS : IV → IV → IH → R IV
  | .str z, .int i, h => if z.length ≤ sizeLine then match atI z.cps.toList i with
    | some c => .ok (.str ⟨#[c]⟩) h
    | none => .bad else .bad
  | _, _, _ => .bad
theorem m_ixS {a b : Expr} {f g : EM} {pos : Pos} (ha : PE X a (tE C X.K W f)) (hb : PE X b (tE C X.K W g)) (hs : PlainIx b) : PE X (.Subscript a b pos) (tE C X.K W (e2 bIxS f g)) :=
  pe_weak (pe_ix ix_str ha hb hs) fun σ H Q t => e2_run (fun m H h x y u v Q s rx ry p => by
    unfold bIxS at p
    split at p
    · simp only [rV, VR] at rx ry
      subst rx; subst ry
      split at p
      · rename_i hz
        split at p
        · rename_i c hc
          exact ⟨_, _, c, rfl, rfl, hz, hc, post_str s p⟩
        · exact p.elim
      · exact p.elim
    · exact p.elim) t
theorem m_oN : PO X none (tOI C X.K W oN) := ⟨fun pins s σ H Q I t => po_none.run pins s σ H Q I (by
    obtain ⟨m, env, h, er, sr, p⟩ := t
    exact p.here sr rfl)⟩
theorem m_oS {e : Expr} {f : EM} (h : PE X e (tE C X.K W f)) : PO X (some e) (tOI C X.K W (oS f)) := ⟨fun pins s σ H Q I t => (po_some h).run pins s σ H Q I (by
    obtain ⟨m, env, h, er, sr, p⟩ := t
    refine ⟨m, env, h, er, sr, tg_run p fun m1 H1 x h1 u g1 s1 r1 p1 => ?_⟩
    cases x <;> first | exact p1.elim | skip
    simp only [rV, VR] at r1
    subst r1
    exact ⟨_, rfl, p1.here s1 rfl⟩)⟩
theorem cut_rel {K : PySem.W.Frag} {m : List Addr} {H : Hp} {xs : List IV} {vs : List V} (r : VRs K m H xs vs) (lo hi : Option Int) : VRs K m H (cut xs lo hi) (cutV vs lo hi) := by
  unfold cut cutV
  rw [← r.length]
  exact VRs.take _ (VRs.drop _ r)
theorem cut_all {α : Type} {xs : List α} {lo hi : Option Int} (h : HT.sIx xs.length 0 lo = 0 ∧ HT.sIx xs.length xs.length hi = xs.length) : cut xs lo hi = xs := by
  unfold cut
  rw [h.1, h.2]
  simp
theorem m_cutT {e : Expr} {lo hi : Option Expr} {f : EM} {l u : IEnv → IH → R (Option Int)} {p2 pos : Pos} (he : PE X e (tE C X.K W f)) (hl : PO X lo (tOI C X.K W l)) (hu : PO X hi (tOI C X.K W u)) :
    PE X (.Subscript e (.Slice lo hi none p2) pos) (tE C X.K W (eCutT f l u)) :=
  pe_weak (pe_slice sl_tupN he hl hu) fun σ H Q ⟨m, env, h, er, sr, p⟩ => ⟨m, env, h, er, sr, tg_run p fun m1 H1 x h1 u1 g1 s1 r1 p1 => ⟨m1, env, h1, er.mono g1, s1, tg_run p1 fun m2 H2 a h2 u2 g2 s2 r2 p2 =>
    ⟨m2, env, h2, (er.mono g1).mono g2, s2, tg_run p2 fun m3 H3 b h3 u3 g3 s3 r3 p3 => by
      subst r2; subst r3
      have r4 := VR.mono (g2.trans g3) _ _ r1
      cases x <;> first | exact p3.elim | skip
      rename_i xs
      simp only [rV, VR] at r4
      obtain ⟨ad, vs, rfl, t, rr⟩ := r4
      refine ⟨ad, vs, rfl, t.sq, fun hw => ?_, fun _ q ob hq hd => post_tup s3 p3 (cut_rel rr a b) hq hd⟩
      refine p3.here s3 ?_
      rw [← rr.length] at hw
      rw [cut_all hw]
      simp only [rV, VR]
      exact ⟨ad, vs, rfl, t, rr⟩⟩⟩⟩
/-- a fresh list's rule: at p stands the list -/
theorem post_lst {σ : St} {m : List Addr} {H : Hp} {h : IH} {Q : VK} {xs : List IV} {vs : List V} (s : SR X.K m H h) (p : Post C X.K W σ m H (rL X.K) Q (.ok xs h)) (r : VRs X.K m H xs vs) {a : Addr} (ha : H a = none) : Q (.ref a) (upd H a (.lst vs)) :=
  p m _ _ (Go.laid ha) (s.laid ha) ⟨a, vs, rfl, s.fresh ha, fun _ => ha, upd_same, VRs.mono (Go.laid ha) _ _ r⟩
theorem m_cutL {e : Expr} {lo hi : Option Expr} {f : EM} {l u : IEnv → IH → R (Option Int)} {p2 pos : Pos} (he : PE X e (tE C X.K W f)) (hl : PO X lo (tOI C X.K W l)) (hu : PO X hi (tOI C X.K W u)) :
    PE X (.Subscript e (.Slice lo hi none p2) pos) (tL C X.K W (lCut f l u)) :=
  pe_weak (pe_slice sl_list he hl hu) fun σ H Q ⟨m, env, h, er, sr, p⟩ => ⟨m, env, h, er, sr, tg_run p fun m1 H1 x h1 u1 g1 s1 r1 p1 => ⟨m1, env, h1, er.mono g1, s1, tg_run p1 fun m2 H2 a h2 u2 g2 s2 r2 p2 =>
    ⟨m2, env, h2, (er.mono g1).mono g2, s2, tg_run p2 fun m3 H3 b h3 u3 g3 s3 r3 p3 => by
      subst r2; subst r3
      have r4 := VR.mono (g2.trans g3) _ _ r1
      have go : ∀ {xs : List IV}, items h3 x = some xs → (∀ ys, x ≠ .tup ys) → Post C X.K W σ m3 H3 (rL X.K) Q (.ok (cut xs a b) h3) → rSlL X.K u1 a b H3 Q := by
        intro xs hi hx p4
        have q : ∃ ad us, u1 = .ref ad ∧ SqL X.K H3 ad us ∧ VRs X.K m3 H3 xs us := by
          cases x with
          | scr ns =>
            simp only [rV, VR] at r4
            obtain ⟨ad, rfl, q⟩ := r4
            cases hi
            exact ⟨ad, _, rfl, q.list, VRs.of_ints ns⟩
          | ref k =>
            simp only [rV, VR] at r4
            obtain ⟨ad, e1, rfl⟩ := r4
            simp only [items] at hi
            split at hi
            · rename_i ys hk
              cases hi
              obtain ⟨a', vs, e2, q, rr⟩ := s3.get hk
              rw [e1] at e2; cases e2
              exact ⟨ad, vs, rfl, .of q, rr⟩
            · cases hi
          | tup ys => exact absurd rfl (hx ys)
          | non => cases hi
          | bl _ => cases hi
          | int _ => cases hi
          | str _ => cases hi
        obtain ⟨ad, us, rfl, q, rr⟩ := q
        exact ⟨ad, us, rfl, q, fun w hw => post_lst s3 p4 (cut_rel rr a b) hw⟩
      cases x with
      | tup ys => exact p3.elim
      | scr ns => exact go (xs := ns.map .int) rfl (fun _ z => by cases z) p3
      | ref k =>
        simp only at p3
        cases hi : items h3 (.ref k) with
        | none => rw [hi] at p3; exact p3.elim
        | some xs => rw [hi] at p3; exact go hi (fun _ z => by cases z) p3
      | non => exact p3.elim
      | bl _ => exact p3.elim
      | int _ => exact p3.elim
      | str _ => exact p3.elim⟩⟩⟩

/-! ### argument lists, displays -/
theorem m_aNil : PA X [] (tA C X.K W aNil) := pa_weak pa_nil fun σ H Q ⟨m, env, h, er, sr, p⟩ => p.here sr (by simp only [rVs, VRs])
theorem m_aCons {e : Expr} {es : List Expr} {f : EM} {g : IEnv → IH → R (List IV)} (ha : PE X e (tE C X.K W f)) (hr : PA X es (tA C X.K W g)) (hs : starEach (e :: es) X.env = (false, eval e X.env) :: starEach es X.env) :
    PA X (e :: es) (tA C X.K W (aCons f g)) :=
  pa_weak (pa_cons ha hr hs) fun σ H Q ⟨m, env, h, er, sr, p⟩ => ⟨m, env, h, er, sr, tg_run p fun m1 H1 x h1 u1 g1 s1 r1 p1 => ⟨m1, env, h1, er.mono g1, s1, tg_run p1 fun m2 H2 a h2 u2 g2 s2 r2 p2 =>
    p2.here s2 (by simp only [rVs, VRs]; exact ⟨u1, u2, rfl, VR.mono g2 _ _ r1, r2⟩)⟩⟩
theorem m_tup {es : List Expr} {f : IEnv → IH → R (List IV)} {x1 : Nat} {pos : Pos} (h : PA X es (tA C X.K W f)) : PE X (.Tuple es x1 pos) (tE C X.K W (eTup f)) :=
  pe_weak (pe_tupN h) fun σ H Q ⟨m, env, h, er, sr, p⟩ => ⟨m, env, h, er, sr, tg_run p fun m1 H1 xs h1 us g1 s1 r1 p1 => by
    split at p1
    · rename_i hz
      exact ⟨by rw [← r1.length]; exact hz, fun q ob hq hd => post_tup s1 p1 r1 hq hd⟩
    · exact p1.elim⟩
theorem m_lst {es : List Expr} {f : IEnv → IH → R (List IV)} {pos : Pos} (h : PA X es (tA C X.K W f)) : PE X (.List es pos) (tL C X.K W (lLst f)) :=
  pe_weak (pe_lst h) fun σ H Q ⟨m, env, h, er, sr, p⟩ => ⟨m, env, h, er, sr, tg_run p fun m1 H1 xs h1 us g1 s1 r1 p1 => by
    split at p1
    · rename_i hz
      exact ⟨by rw [← r1.length]; exact hz, fun q hq => post_lst s1 p1 r1 hq⟩
    · exact p1.elim⟩
/-- a fresh list becomes one of the small heap -/
theorem new_post {σ : St} {m : List Addr} {H : Hp} {Q : VK} {r : R (List IV)} (p : Post C X.K W σ m H (rV X.K) Q (r.bind fun xs h1 => .ok (.ref h1.length) (h1 ++ [.lst xs]))) : Post C X.K W σ m H (rL X.K) Q r := by
  cases r with
  | ok xs h1 =>
    intro m1 H1 u g1 s1 ⟨a, vs, e, n, f, q, rr⟩
    subst e
    have n0 : a ∉ m := fun z => by
      obtain ⟨k, e⟩ := List.mem_iff_getElem?.mp z
      exact n (List.mem_of_getElem? (g1.pre k a e))
    refine p (m1 ++ [a]) H1 (.ref a) (Go.take q n g1 (f n0)) (s1.take q n rr) ?_
    show VR X.K (m1 ++ [a]) H1 (.ref h1.length) (.ref a)
    simp only [rV, VR]
    exact ⟨a, by rw [← s1.len]; simp, rfl⟩
  | exc x h1 => exact p
  | bad => exact p
theorem m_new {e : Expr} {f : IEnv → IH → R (List IV)} (h : PE X e (tL C X.K W f)) : PE X e (tE C X.K W (eNew f)) :=
  pe_weak h fun σ H Q ⟨m, env, h, er, sr, p⟩ => ⟨m, env, h, er, sr, new_post p⟩
end
end MM
/-! M3: built-ins -/
namespace MM
open PySem L2

/-! ### sorted ints -/
def insI (x : Int) : List Int → List Int
  | [] => [x]
  | y :: ys => if x ≤ y then x :: y :: ys else y :: insI x ys
def sortI : List Int → List Int
  | [] => []
  | x :: xs => insI x (sortI xs)
def insU (x : Int) : List Int → List Int
  | [] => [x]
  | y :: ys => if x < y then x :: y :: ys else if x = y then y :: ys else y :: insU x ys
def sortU : List Int → List Int
  | [] => []
  | x :: xs => insU x (sortU xs)
theorem insI_perm (x : Int) : ∀ l : List Int, (insI x l).Perm (x :: l)
  | [] => .refl _
  | y :: ys => by
    unfold insI
    split
    · exact .refl _
    · exact ((insI_perm x ys).cons y).trans (.swap x y ys)
theorem sortI_perm : ∀ l : List Int, (sortI l).Perm l
  | [] => .refl _
  | x :: xs => (insI_perm x _).trans ((sortI_perm xs).cons x)
theorem insI_sorted (x : Int) : ∀ l : List Int, l.Pairwise (· ≤ ·) → (insI x l).Pairwise (· ≤ ·)
  | [], _ => List.pairwise_singleton _ _
  | y :: ys, h => by
    unfold insI
    obtain ⟨h1, h2⟩ := List.pairwise_cons.mp h
    split
    · rename_i hx
      refine List.pairwise_cons.mpr ⟨fun z hz => ?_, h⟩
      rcases List.mem_cons.mp hz with e | e
      · rw [e]; exact hx
      · exact Int.le_trans hx (h1 z e)
    · rename_i hx
      refine List.pairwise_cons.mpr ⟨fun z hz => ?_, insI_sorted x ys h2⟩
      rcases List.mem_cons.mp ((insI_perm x ys).mem_iff.mp hz) with e | e
      · rw [e]; omega
      · exact h1 z e
theorem sortI_sorted : ∀ l : List Int, (sortI l).Pairwise (· ≤ ·)
  | [] => .nil
  | x :: xs => insI_sorted x _ (sortI_sorted xs)
theorem sorted_eq : ∀ {a b : List Int}, a.Pairwise (· ≤ ·) → b.Pairwise (· ≤ ·) → a.Perm b → a = b
  | [], b, _, _, p => by rw [List.nil_perm.mp p]
  | x :: xs, [], _, _, p => by cases List.perm_nil.mp p
  | x :: xs, y :: ys, h, h', p => by
    obtain ⟨h1, h2⟩ := List.pairwise_cons.mp h
    obtain ⟨h3, h4⟩ := List.pairwise_cons.mp h'
    have e : x = y := by
      have q1 : y ∈ x :: xs := p.mem_iff.mpr List.mem_cons_self
      have q2 : x ∈ y :: ys := p.mem_iff.mp List.mem_cons_self
      rcases List.mem_cons.mp q1 with e | e
      · exact e.symm
      · rcases List.mem_cons.mp q2 with e' | e'
        · exact e'
        · exact Int.le_antisymm (h1 y e) (h3 x e')
    subst e
    rw [sorted_eq h2 h4 (List.Perm.cons_inv p)]
theorem insU_mem (x z : Int) : ∀ l : List Int, z ∈ insU x l ↔ z = x ∨ z ∈ l
  | [] => by simp [insU]
  | y :: ys => by
    unfold insU
    split
    · simp
    · split
      · rename_i e
        subst e
        simp
      · rw [List.mem_cons, insU_mem x z ys, List.mem_cons]
        constructor
        · rintro (h | h | h)
          · exact .inr (.inl h)
          · exact .inl h
          · exact .inr (.inr h)
        · rintro (h | h | h)
          · exact .inr (.inl h)
          · exact .inl h
          · exact .inr (.inr h)
theorem insU_sorted (x : Int) : ∀ l : List Int, l.Pairwise (· < ·) → (insU x l).Pairwise (· < ·)
  | [], _ => List.pairwise_singleton _ _
  | y :: ys, h => by
    unfold insU
    obtain ⟨h1, h2⟩ := List.pairwise_cons.mp h
    split
    · rename_i hx
      refine List.pairwise_cons.mpr ⟨fun z hz => ?_, h⟩
      rcases List.mem_cons.mp hz with e | e
      · rw [e]; exact hx
      · exact Int.lt_trans hx (h1 z e)
    · split
      · exact h
      · refine List.pairwise_cons.mpr ⟨fun z hz => ?_, insU_sorted x ys h2⟩
        rcases (insU_mem x z ys).mp hz with e | e
        · rw [e]; omega
        · exact h1 z e
theorem sortU_mem (z : Int) : ∀ l : List Int, z ∈ sortU l ↔ z ∈ l
  | [] => by simp [sortU]
  | x :: xs => by
    unfold sortU
    rw [insU_mem, sortU_mem z xs, List.mem_cons]
theorem sortU_sorted : ∀ l : List Int, (sortU l).Pairwise (· < ·)
  | [] => .nil
  | x :: xs => insU_sorted x _ (sortU_sorted xs)
theorem sortedU_eq : ∀ {a b : List Int}, a.Pairwise (· < ·) → b.Pairwise (· < ·) → (∀ z, z ∈ a ↔ z ∈ b) → a = b
  | [], [], _, _, _ => rfl
  | [], y :: ys, _, _, p => by have := (p y).mpr List.mem_cons_self; cases this
  | x :: xs, [], _, _, p => by have := (p x).mp List.mem_cons_self; cases this
  | x :: xs, y :: ys, h, h', p => by
    obtain ⟨h1, h2⟩ := List.pairwise_cons.mp h
    obtain ⟨h3, h4⟩ := List.pairwise_cons.mp h'
    have e : x = y := by
      rcases List.mem_cons.mp ((p x).mp List.mem_cons_self) with e | e
      · exact e
      · rcases List.mem_cons.mp ((p y).mpr List.mem_cons_self) with e' | e'
        · exact e'.symm
        · have := h1 y e'; have := h3 x e; omega
    subst e
    rw [sortedU_eq h2 h4 fun z => ?_]
    constructor
    · intro hz
      rcases List.mem_cons.mp ((p z).mp (List.mem_cons_of_mem _ hz)) with e | e
      · have := h1 z hz; omega
      · exact e
    · intro hz
      rcases List.mem_cons.mp ((p z).mpr (List.mem_cons_of_mem _ hz)) with e | e
      · have := h3 z hz; omega
      · exact e

/-! ### the combinators -/
/-- ints out of a list or tuple, then f -/
def lInts (g : List Int → List Int) (f : IEnv → IH → R (List IV)) : IEnv → IH → R (List IV) := fun env h => (f env h).bind fun xs h1 => match intsOf xs with
  | some ns => .ok ((g ns).map .int) h1
  | none => .bad
def eInts (g : List Int → Option Int) (f : IEnv → IH → R (List IV)) : EM := fun env h => (f env h).bind fun xs h1 => match intsOf xs with
  | some ns => match g ns with
    | some i => .ok (.int i) h1
    | none => .bad
  | none => .bad
def blsOf (xs : List IV) : Option (List Bool) := optAll (fun x => match x with
  | .bl i => some i
  | _ => none) xs
def eBls (g : List Bool → Bool) (f : IEnv → IH → R (List IV)) : EM := fun env h => (f env h).bind fun xs h1 => match blsOf xs with
  | some ns => .ok (.bl (g ns)) h1
  | none => .bad
def lSortSet (f : IEnv → IH → R (List IV)) : IEnv → IH → R (List IV) := fun env h => (f env h).bind fun xs h1 => match intsOf xs with
  | some ns => if ns.length < 60 then .ok ((sortU ns).map .int) h1 else .bad
  | none => .bad
def lRange (lo hi : Int) : List IV := (List.range (hi - lo).toNat).map fun i => IV.int (lo + (i : Nat))
def rgOk (a b : Int) : Bool := decide (-(2 ^ 62) ≤ a ∧ a < 2 ^ 62 ∧ -(2 ^ 62) ≤ b ∧ b < 2 ^ 62 ∧ (b - a).toNat ≤ 2 ^ 24)
def lRg1 (f : EM) : IEnv → IH → R (List IV) := fun env h => (f env h).bind fun x h1 => match x with
  | .int n => if rgOk 0 n = true then .ok (lRange 0 n) h1 else .bad
  | _ => .bad
def lRg2 (f g : EM) : IEnv → IH → R (List IV) := fun env h => (f env h).bind fun x h1 => (g env h1).bind fun y h2 => match x, y with
  | .int a, .int b => if rgOk a b = true then .ok (lRange a b) h2 else .bad
  | _, _ => .bad
def bMax : IV → IV → IH → R IV
  | .int i, .int j, h => .ok (.int (if j > i then j else i)) h
  | _, _, _ => .bad
def bMin : IV → IV → IH → R IV
  | .int i, .int j, h => .ok (.int (if j < i then j else i)) h
  | _, _, _ => .bad
def uAbs : IV → IH → R IV
  | .int i, h => .ok (.int (if i < 0 then -i else i)) h
  | _, _ => .bad
def uInt : IV → IH → R IV
  | .int i, h => .ok (.int i) h
  | .bl b, h => .ok (.int (if b then 1 else 0)) h
  | _, _ => .bad
def uLenS : IV → IH → R IV
  | .str s, h => if s.length ≤ sizeLine then .ok (.int s.length) h else .bad
  | _, _ => .bad
/-- the name of a value's type -/
def tyN (h : IH) : IV → String
  | .non => "NoneType"
  | .bl _ => "bool"
  | .int _ => "int"
  | .str _ => "str"
  | .scr _ => "list"
  | .ref _ => "list"
  | .tup _ => "tuple"
def uIsi (t : String) : IV → IH → R IV := fun x h => match x with
  | .scr _ => .bad
  | x => match kitB (tyN h x) t with
    | some b => .ok (.bl b) h
    | none => .bad

/-- the text that repr tells of data -/
def rpr (d : PyData) (h : IH) : R IV := if SeqAt.shaped d = true ∧ d.showable = true ∧ d.shown.length ≤ sizeLine then .ok (.str d.shown) h else .bad
def uRepr : IV → IH → R IV
  | .tup xs, h => match toD h 66 (.tup xs) with
    | some d => rpr d h
    | none => .bad
  | .ref k, h => match toD h 66 (.ref k) with
    | some d => rpr d h
    | none => .bad
  | .int i, h => if i.natAbs.log2 < 1920 then .ok (.str (toString i)) h else .bad
  | _, _ => .bad
def eReprL (f : IEnv → IH → R (List IV)) : EM := fun env h => (f env h).bind fun xs h1 => match optAll (toD h1 66) xs with
  | some ds => rpr (.list ds) h1
  | none => .bad
/-- a method of a list -/
def eMth (o : IV → List IV → IH → R IV) (f : EM) (g : IEnv → IH → R (List IV)) : EM := fun env h => (f env h).bind fun x h1 => match x with
  | .ref k => match h1[k]? with
    | some (.lst _) => (g env h1).bind fun ys h2 => o x ys h2
    | _ => .bad
  | _ => .bad
def eMth0 (o : IV → List IV → IH → R IV) (f : EM) : EM := fun env h => (f env h).bind fun x h1 => match x with
  | .ref k => match h1[k]? with
    | some (.lst _) => o x [] h1
    | _ => .bad
  | _ => .bad
def mAppend : IV → List IV → IH → R IV
  | .ref k, [y], h => match h[k]? with
    | some (.lst xs) => if xs.length < sizeLine then .ok .non (h.set k (.lst (xs ++ [y]))) else .bad
    | _ => .bad
  | _, _, _ => .bad
def mPop : IV → List IV → IH → R IV
  | .ref k, [], h => match h[k]? with
    | some (.lst xs) => match xs[xs.length - 1]? with
      | some y => .ok y (h.set k (.lst xs.dropLast))
      | none => .bad
    | _ => .bad
  | .ref k, [.int i], h => match h[k]? with
    | some (.lst xs) => if -(2 ^ 63) ≤ i ∧ i < 2 ^ 63 then match seqIndex? i xs.length with
      | some j => match xs[j]? with
        | some y => .ok y (h.set k (.lst (xs.eraseIdx j)))
        | none => .bad
      | none => .bad else .bad
    | _ => .bad
  | _, _, _ => .bad
/-- the first place of an equal flat thing -/
def idxOf (x : IV) : List IV → Option Nat
  | [] => none
  | y :: ys => if eqF y x = true then some 0 else (idxOf x ys).map (· + 1)
def mIndex : IV → List IV → IH → R IV
  | .ref k, [y], h => match h[k]? with
    | some (.lst xs) => if flat y = true ∧ xs.all flat = true then match idxOf y xs with
      | some j => .ok (.int j) h
      | none => .bad else .bad
    | _ => .bad
  | _, _, _ => .bad

section
variable {X : Cx} {C : Cc} {W : WX}

/-- one argument, a list or a tuple -/
theorem one_q {α : Type} {rel2 : Rel α V} [RelMono X.K rel2] {f : IEnv → IH → R (List IV)} {k : List IV → IH → R α} {r : List V → Hp → VK → Prop} {σ : St} {H : Hp} {Q : VK}
    (hr : ∀ m H h xs a vs (Q : VK), SR X.K m H h → (SqL X.K H a vs ∨ SqN X.K H a vs) → VRs X.K m H xs vs → Post C X.K W σ m H rel2 Q (k xs h) → r [.ref a] H Q)
    (t : tG C X.K W rel2 (fun env h => (f env h).bind k) σ H Q) : tCB r (tCons (tSq C X.K W f) tNil) σ H Q := by
  obtain ⟨m, env, h, er, sr, p⟩ := t
  refine ⟨m, env, h, er, sr, tg_run p fun m1 H1 xs h1 u g1 s1 r1 p1 => ?_⟩
  obtain ⟨a, vs, rfl, q, rr⟩ := r1
  exact hr m1 H1 h1 xs a vs Q s1 q rr p1
/-- one argument, a value -/
theorem one_v {α : Type} {rel2 : Rel α V} [RelMono X.K rel2] {f : EM} {k : IV → IH → R α} {r : List V → Hp → VK → Prop} {σ : St} {H : Hp} {Q : VK}
    (hr : ∀ m H h x u (Q : VK), SR X.K m H h → VR X.K m H x u → Post C X.K W σ m H rel2 Q (k x h) → r [u] H Q)
    (t : tG C X.K W rel2 (fun env h => (f env h).bind k) σ H Q) : tCB r (tCons (tE C X.K W f) tNil) σ H Q := by
  obtain ⟨m, env, h, er, sr, p⟩ := t
  exact ⟨m, env, h, er, sr, tg_run p fun m1 H1 x h1 u g1 s1 r1 p1 => hr m1 H1 h1 x u Q s1 r1 p1⟩

section
variable {e : Expr} {p pos : Pos} {f : IEnv → IH → R (List IV)}
theorem m_tuple (hg : Gl X "tuple") (hm : X.mg "tuple" = none) (he : PE X e (tSq C X.K W f)) (hs : starEach (e :: []) X.env = (false, eval e X.env) :: starEach [] X.env) (hp : (backTo pos (starEach [] X.env)).any (·.1) = false) :
    PE X (.Call (.Name "tuple" p) [e] [] pos) (tE C X.K W (eTuple f)) :=
  pe_weak (pe_callTy call_tupleN hg hm (by decide +kernel) (pa_cons he pa_nil hs) (by decide) (by decide) hs hp) fun σ H Q t => one_q (fun m H h xs a vs Q s q rr p => ⟨a, vs, rfl, by
    rcases q with q | q
    · exact .inl ⟨q, fun l ob hl hd => post_tup s p rr hl hd⟩
    · exact .inr ⟨q.sq, p.here s (by simp only [rV, VR]; exact ⟨a, vs, rfl, q, rr⟩)⟩⟩) t
theorem m_list (hg : Gl X "list") (hm : X.mg "list" = none) (he : PE X e (tSq C X.K W f)) (hs : starEach (e :: []) X.env = (false, eval e X.env) :: starEach [] X.env) (hp : (backTo pos (starEach [] X.env)).any (·.1) = false) :
    PE X (.Call (.Name "list" p) [e] [] pos) (tL C X.K W (fun env h => (f env h).bind fun xs h1 => .ok xs h1)) :=
  pe_weak (pe_callTy call_list_of hg hm (by decide +kernel) (pa_cons he pa_nil hs) (by decide) (by decide) hs hp) fun σ H Q t => one_q (fun m H h xs a vs Q s q rr p => ⟨a, vs, rfl, q.imp id SqN.sq, fun l hl => post_lst s p rr hl⟩) t
theorem m_len (hg : Gl X "len") (hm : X.mg "len" = none) (he : PE X e (tSq C X.K W f)) (hs : starEach (e :: []) X.env = (false, eval e X.env) :: starEach [] X.env) (hp : (backTo pos (starEach [] X.env)).any (·.1) = false) :
    PE X (.Call (.Name "len" p) [e] [] pos) (tE C X.K W (eLen f)) :=
  pe_weak (pe_callB call_len_seq hg hm (by decide +kernel) (pa_cons he pa_nil hs) (by decide) (by decide) hs hp) fun σ H Q t => one_q (fun m H h xs a vs Q s q rr p => ⟨a, vs, rfl, q.imp id SqN.sq, by
    rw [← rr.length]; exact post_int s p⟩) t
theorem m_lenS {f : EM} (hg : Gl X "len") (hm : X.mg "len" = none) (he : PE X e (tE C X.K W f)) (hs : starEach (e :: []) X.env = (false, eval e X.env) :: starEach [] X.env) (hp : (backTo pos (starEach [] X.env)).any (·.1) = false) :
    PE X (.Call (.Name "len" p) [e] [] pos) (tE C X.K W (e1 uLenS f)) :=
  pe_weak (pe_callB call_len_str hg hm (by decide +kernel) (pa_cons he pa_nil hs) (by decide) (by decide) hs hp) fun σ H Q t => one_v (fun m H h x u Q s r p => by
    unfold uLenS at p
    split at p
    · simp only [rV, VR] at r
      subst r
      split at p
      · exact ⟨_, rfl, by assumption, post_int s p⟩
      · exact p.elim
    · exact p.elim) t
theorem m_int1 {f : EM} (hg : Gl X "int") (hm : X.mg "int" = none) (he : PE X e (tE C X.K W f)) (hs : starEach (e :: []) X.env = (false, eval e X.env) :: starEach [] X.env) (hp : (backTo pos (starEach [] X.env)).any (·.1) = false) :
    PE X (.Call (.Name "int" p) [e] [] pos) (tE C X.K W (e1 uInt f)) :=
  pe_weak (pe_callTy call_int1 hg hm (by decide +kernel) (pa_cons he pa_nil hs) (by decide) (by decide) hs hp) fun σ H Q t => one_v (fun m H h x u Q s r p => by
    unfold uInt at p
    split at p
    · simp only [rV, VR] at r
      subst r
      exact .inl ⟨_, rfl, post_int s p⟩
    · simp only [rV, VR] at r
      subst r
      exact .inr ⟨_, rfl, post_int s p⟩
    · exact p.elim) t
theorem m_abs {f : EM} (hg : Gl X "abs") (hm : X.mg "abs" = none) (he : PE X e (tE C X.K W f)) (hs : starEach (e :: []) X.env = (false, eval e X.env) :: starEach [] X.env) (hp : (backTo pos (starEach [] X.env)).any (·.1) = false) :
    PE X (.Call (.Name "abs" p) [e] [] pos) (tE C X.K W (e1 uAbs f)) :=
  pe_weak (pe_callB call_abs hg hm (by decide +kernel) (pa_cons he pa_nil hs) (by decide) (by decide) hs hp) fun σ H Q t => one_v (fun m H h x u Q s r p => by
    unfold uAbs at p
    split at p
    · simp only [rV, VR] at r
      subst r
      exact ⟨_, rfl, post_int s p⟩
    · exact p.elim) t
theorem two_v {α : Type} {rel2 : Rel α V} [RelMono X.K rel2] {f g : EM} {k : IV → IV → IH → R α} {r : List V → Hp → VK → Prop} {σ : St} {H : Hp} {Q : VK}
    (hr : ∀ m H h x y u v (Q : VK), SR X.K m H h → VR X.K m H x u → VR X.K m H y v → Post C X.K W σ m H rel2 Q (k x y h) → r [u, v] H Q)
    (t : tG C X.K W rel2 (fun env h => (f env h).bind fun x h1 => (g env h1).bind fun y h2 => k x y h2) σ H Q) : tCB r (tCons (tE C X.K W f) (tCons (tE C X.K W g) tNil)) σ H Q := by
  obtain ⟨m, env, h, er, sr, p⟩ := t
  refine ⟨m, env, h, er, sr, tg_run p fun m1 H1 x h1 u g1 s1 r1 p1 => ?_⟩
  refine ⟨m1, env, h1, er.mono g1, s1, tg_run p1 fun m2 H2 y h2 v g2 s2 r2 p2 => ?_⟩
  exact hr m2 H2 h2 x y u v Q s2 (VR.mono g2 _ _ r1) r2 p2
theorem m_max2 {e2' : Expr} {f g : EM} (hc : X.calm = true) (hg : Gl X "max") (hm : X.mg "max" = none) (he : PE X e (tE C X.K W f)) (he2 : PE X e2' (tE C X.K W g)) (hs : starEach (e :: [e2']) X.env = (false, eval e X.env) :: starEach [e2'] X.env)
    (hs2 : starEach (e2' :: []) X.env = (false, eval e2' X.env) :: starEach [] X.env) (hp : (backTo pos (starEach [e2'] X.env)).any (·.1) = false) : PE X (.Call (.Name "max" p) [e, e2'] [] pos) (tE C X.K W (e2 bMax f g)) :=
  pe_weak (pe_callB (call_max2 hc) hg hm (by decide +kernel) (pa_cons he (pa_cons he2 pa_nil hs2) hs) (by decide) (by decide) hs hp) fun σ H Q t => two_v (fun m H h x y u v Q s r1 r2 p => by
    unfold bMax at p
    split at p
    · simp only [rV, VR] at r1 r2
      subst r1; subst r2
      exact ⟨_, _, rfl, post_int s p⟩
    · exact p.elim) t
theorem m_min2 {e2' : Expr} {f g : EM} (hc : X.calm = true) (hg : Gl X "min") (hm : X.mg "min" = none) (he : PE X e (tE C X.K W f)) (he2 : PE X e2' (tE C X.K W g)) (hs : starEach (e :: [e2']) X.env = (false, eval e X.env) :: starEach [e2'] X.env)
    (hs2 : starEach (e2' :: []) X.env = (false, eval e2' X.env) :: starEach [] X.env) (hp : (backTo pos (starEach [e2'] X.env)).any (·.1) = false) : PE X (.Call (.Name "min" p) [e, e2'] [] pos) (tE C X.K W (e2 bMin f g)) :=
  pe_weak (pe_callB (call_min2 hc) hg hm (by decide +kernel) (pa_cons he (pa_cons he2 pa_nil hs2) hs) (by decide) (by decide) hs hp) fun σ H Q t => two_v (fun m H h x y u v Q s r1 r2 p => by
    unfold bMin at p
    split at p
    · simp only [rV, VR] at r1 r2
      subst r1; subst r2
      exact ⟨_, _, rfl, post_int s p⟩
    · exact p.elim) t
/-- isinstance(x, T) -/
theorem m_isi {tn : Str} {T : String} {p2 : Pos} {f : EM} (hg : Gl X "isinstance") (hm : X.mg "isinstance" = none) (he : PE X e (tE C X.K W f)) (hg2 : Gl X tn) (hm2 : X.mg tn = none) (hb : bootBuiltins tn = some (.type T)) (hn : tn ≠ "__name__") (hd : (tn == ("__debug__" : Str)) = false)
    (hs : starEach (e :: [.Name tn p2]) X.env = (false, eval e X.env) :: starEach [.Name tn p2] X.env) (hs2 : starEach (.Name tn p2 :: []) X.env = (false, eval (.Name tn p2) X.env) :: starEach [] X.env) (hp : (backTo pos (starEach [.Name tn p2] X.env)).any (·.1) = false) :
    PE X (.Call (.Name "isinstance" p) [e, .Name tn p2] [] pos) (tE C X.K W (e1 (uIsi T) f)) :=
  pe_weak (pe_callB call_isi hg hm (by decide +kernel) (pa_cons he (pa_cons (pe_bltn (v := .ty T) hg2 hm2 hb rfl hn hd) pa_nil hs2) hs) (by decide) (by decide) hs hp) fun σ H Q ⟨m, env, h, er, sr, p⟩ => ⟨m, env, h, er, sr, tg_run p fun m1 H1 x h1 u g1 s1 r1 p1 => by
    have go : ∀ t : String, TyX X.K H1 u (.type t) → Post C X.K W σ m1 H1 (rV X.K) Q (match kitB t T with | some b => R.ok (.bl b) h1 | none => R.bad) → rIsi X.K [u, .ty T] H1 Q := by
      intro t ty q
      cases hk : kitB t T with
      | none => rw [hk] at q; exact q.elim
      | some b =>
        rw [hk] at q
        exact ⟨u, .ty T, .type t, .type T, b, rfl, .ty T, ty, kit_ty hk, post_bl s1 q⟩
    unfold uIsi at p1
    cases x with
    | non => simp only [rV, VR] at r1; subst r1; exact go _ (.base .non) p1
    | bl b => simp only [rV, VR] at r1; subst r1; exact go _ (.base (.bl b)) p1
    | int b => simp only [rV, VR] at r1; subst r1; exact go _ (.base (.int b)) p1
    | str b => simp only [rV, VR] at r1; subst r1; exact go _ (.base (.str b)) p1
    | scr b => exact p1.elim
    | ref k =>
      simp only [rV, VR] at r1
      obtain ⟨a, e1, rfl⟩ := r1
      obtain ⟨vs, q⟩ := s1.mem (List.mem_of_getElem? e1)
      exact go _ (.base (.lst q)) p1
    | tup xs =>
      simp only [rV, VR] at r1
      obtain ⟨a, vs, rfl, t0, rr⟩ := r1
      have t := t0.sq
      refine go _ ?_ p1
      rcases t with (q | ⟨o, q⟩) | ⟨o, its, n, q1, q2, _⟩
      · exact .base (.tup q)
      · exact .fTuple q
      · exact .kTuple q1 q2⟩
theorem m_listRg {n : Expr} {p2 pos2 : Pos} {f : EM} (hc : X.calm = true) (hg : Gl X "list") (hm : X.mg "list" = none) (hg2 : Gl X "range") (hm2 : X.mg "range" = none) (he : PE X n (tE C X.K W f)) (hs : starEach [n] X.env = (false, eval n X.env) :: starEach [] X.env)
    (hs2 : starEach [.Call (.Name "range" p2) [n] [] pos2] X.env = (false, eval (.Call (.Name "range" p2) [n] [] pos2) X.env) :: starEach [] X.env) :
    PE X (.Call (.Name "list" p) [.Call (.Name "range" p2) [n] [] pos2] [] pos) (tL C X.K W (lRg1 f)) :=
  pe_weak (pe_listRg hc hg hm (prg_1 hg2 hm2 he hs) hs2) fun σ H Q ⟨m, env, h, er, sr, p⟩ => ⟨m, env, h, er, sr, tg_run p fun m1 H1 x h1 u g1 s1 r1 p1 => by
    cases x <;> first | exact p1.elim | skip
    rename_i i
    simp only [rV, VR] at r1
    subst r1
    dsimp only at p1
    split at p1
    · rename_i hk
      refine ⟨i, rfl, (by unfold rgOk at hk; have hk' := of_decide_eq_true hk; exact hk'), fun q hq => post_lst s1 p1 ?_ hq⟩
      unfold lRange rgV
      have e1 : ((List.range (i - 0).toNat).map fun j => IV.int (0 + (j : Nat))) = ((List.range (i - 0).toNat).map fun j => (0 : Int) + (j : Nat)).map IV.int := by rw [List.map_map]; rfl
      have e2 : ((List.range (i - 0).toNat).map fun j => V.int (0 + (j : Nat))) = ((List.range (i - 0).toNat).map fun j => (0 : Int) + (j : Nat)).map V.int := by rw [List.map_map]; rfl
      rw [e1, e2]
      exact VRs.of_ints _
    · exact p1.elim⟩

/-! ### lists alone -/
def rSl (K : PySem.W.Frag) : Rel (List IV) V := fun _ _ m H xs v => ∃ p vs, v = .ref p ∧ SqL K H p vs ∧ VRs K m H xs vs
instance {K : PySem.W.Frag} : RelMono K (rSl K) := ⟨fun _ r => r⟩
abbrev tSl (C : Cc) (K : PySem.W.Frag) (W : WX) (f : IEnv → IH → R (List IV)) : TE := tG C K W (rSl K) f
def itemsL (h : IH) : IV → Option (List IV)
  | .scr ns => some (ns.map .int)
  | .ref k => match h[k]? with
    | some (.lst xs) => some xs
    | _ => none
  | _ => none
def qLV (f : EM) : IEnv → IH → R (List IV) := fun env h => (f env h).bind fun x h1 => match itemsL h1 x with
  | some xs => .ok xs h1
  | none => .bad
theorem itemsL_rd {K : PySem.W.Frag} {m : List Addr} {H : Hp} {h : IH} (s : SR K m H h) {x : IV} {v : V} {xs : List IV} (r : VR K m H x v) (e : itemsL h x = some xs) : ∃ a vs, v = .ref a ∧ SqL K H a vs ∧ VRs K m H xs vs := by
  cases x with
  | scr ns =>
    simp only [VR] at r
    obtain ⟨a, rfl, q⟩ := r
    cases e
    exact ⟨a, _, rfl, q.list, VRs.of_ints ns⟩
  | ref k =>
    simp only [VR] at r
    obtain ⟨a, e1, rfl⟩ := r
    simp only [itemsL] at e
    split at e
    · rename_i ys hk
      cases e
      obtain ⟨a', vs, e2, q, rr⟩ := s.get hk
      rw [e1] at e2; cases e2
      exact ⟨a, vs, rfl, .of q, rr⟩
    · cases e
  | tup _ => cases e
  | non => cases e
  | bl _ => cases e
  | int _ => cases e
  | str _ => cases e
theorem pe_lV {e : Expr} {f : EM} (he : PE X e (tE C X.K W f)) : PE X e (tSl C X.K W (qLV f)) :=
  pe_weak he fun σ H Q ⟨m, env, h, er, sr, p⟩ => ⟨m, env, h, er, sr, tg_run p fun m1 H1 x h1 u g1 s1 r1 p1 => by
    cases hi : itemsL h1 x with
    | none => rw [hi] at p1; exact p1.elim
    | some xs =>
      rw [hi] at p1
      exact p1.here s1 (itemsL_rd s1 r1 hi)⟩
theorem pe_lL {e : Expr} {f : IEnv → IH → R (List IV)} (he : PE X e (tL C X.K W f)) : PE X e (tSl C X.K W f) :=
  pe_weak he fun σ H Q ⟨m, env, h, er, sr, p⟩ => ⟨m, env, h, er, sr, by
    cases hf : f env h with
    | ok xs h1 =>
      rw [hf] at p
      exact fun m1 H1 u g1 s1 ⟨a, vs, e, n, _, q, rr⟩ => p m1 H1 u g1 s1 ⟨a, vs, e, .of q, rr⟩
    | exc x h1 => rw [hf] at p; exact p
    | bad => rw [hf] at p; exact p⟩
theorem one_l {α : Type} {rel2 : Rel α V} [RelMono X.K rel2] {f : IEnv → IH → R (List IV)} {k : List IV → IH → R α} {r : List V → Hp → VK → Prop} {σ : St} {H : Hp} {Q : VK}
    (hr : ∀ m H h xs a vs (Q : VK), SR X.K m H h → SqL X.K H a vs → VRs X.K m H xs vs → Post C X.K W σ m H rel2 Q (k xs h) → r [.ref a] H Q)
    (t : tG C X.K W rel2 (fun env h => (f env h).bind k) σ H Q) : tCB r (tCons (tSl C X.K W f) tNil) σ H Q := by
  obtain ⟨m, env, h, er, sr, p⟩ := t
  refine ⟨m, env, h, er, sr, tg_run p fun m1 H1 xs h1 u g1 s1 r1 p1 => ?_⟩
  obtain ⟨a, vs, rfl, q, rr⟩ := r1
  exact hr m1 H1 h1 xs a vs Q s1 q rr p1
theorem blsOf_map {K : PySem.W.Frag} {m : List Addr} {H : Hp} : ∀ {xs : List IV} {bs : List Bool} {vs : List V}, blsOf xs = some bs → VRs K m H xs vs → vs = bs.map V.bl
  | [], bs, vs, e, r => by
    cases e
    simp only [VRs] at r
    exact r
  | x :: xs, bs, vs, e, r => by
    obtain ⟨y, ys, e1, e2, rfl⟩ := optAll_cons e
    simp only [VRs] at r
    obtain ⟨v, q, rfl, r1, r2⟩ := r
    have ih := blsOf_map (xs := xs) (bs := ys) e2 r2
    cases x <;> first | cases e1 | skip
    simp only [VR] at r1
    rw [ih, r1]
    rfl
section
variable {e : Expr} {p pos : Pos} {f : IEnv → IH → R (List IV)}
theorem m_all (hc : X.calm = true) (hg : Gl X "all") (hm : X.mg "all" = none) (he : PE X e (tSl C X.K W f)) (hs : starEach (e :: []) X.env = (false, eval e X.env) :: starEach [] X.env) (hp : (backTo pos (starEach [] X.env)).any (·.1) = false) :
    PE X (.Call (.Name "all" p) [e] [] pos) (tE C X.K W (eBls (fun bs => bs.all id) f)) :=
  pe_weak (pe_callB (cr_all hc) hg hm (by decide +kernel) (pa_cons he pa_nil hs) (by decide) (by decide) hs hp) fun σ H Q t => one_l (fun m H h xs a vs Q s q rr p => by
    split at p
    · rename_i bs hb
      rw [blsOf_map hb rr] at q
      exact ⟨a, bs, rfl, q, post_bl s p⟩
    · exact p.elim) t
theorem m_any (hc : X.calm = true) (hg : Gl X "any") (hm : X.mg "any" = none) (he : PE X e (tSl C X.K W f)) (hs : starEach (e :: []) X.env = (false, eval e X.env) :: starEach [] X.env) (hp : (backTo pos (starEach [] X.env)).any (·.1) = false) :
    PE X (.Call (.Name "any" p) [e] [] pos) (tE C X.K W (eBls (fun bs => bs.any id) f)) :=
  pe_weak (pe_callB (cr_any hc) hg hm (by decide +kernel) (pa_cons he pa_nil hs) (by decide) (by decide) hs hp) fun σ H Q t => one_l (fun m H h xs a vs Q s q rr p => by
    split at p
    · rename_i bs hb
      rw [blsOf_map hb rr] at q
      exact ⟨a, bs, rfl, q, post_bl s p⟩
    · exact p.elim) t
theorem m_sum (hc : X.calm = true) (hg : Gl X "sum") (hm : X.mg "sum" = none) (he : PE X e (tSl C X.K W f)) (hs : starEach (e :: []) X.env = (false, eval e X.env) :: starEach [] X.env) (hp : (backTo pos (starEach [] X.env)).any (·.1) = false) :
    PE X (.Call (.Name "sum" p) [e] [] pos) (tE C X.K W (eInts (fun ns => some ns.sum) f)) :=
  pe_weak (pe_callB (cr_sum hc) hg hm (by decide +kernel) (pa_cons he pa_nil hs) (by decide) (by decide) hs hp) fun σ H Q t => one_l (fun m H h xs a vs Q s q rr p => by
    split at p
    · rename_i ns hn
      rw [intsOf_map hn] at rr
      rw [VRs.ints rr] at q
      exact ⟨a, ns, rfl, q, post_int s p⟩
    · exact p.elim) t
/-- the greatest, the least -/
def maxL : List Int → Option Int
  | [] => none
  | x :: xs => some (xs.foldl (fun a b => if b > a then b else a) x)
def minL : List Int → Option Int
  | [] => none
  | x :: xs => some (xs.foldl (fun a b => if b < a then b else a) x)
theorem maxL_fold : ∀ (xs : List Int) (x : Int), (xs.foldl (fun a b => if b > a then b else a) x) ∈ x :: xs ∧ ∀ y ∈ x :: xs, y ≤ xs.foldl (fun a b => if b > a then b else a) x
  | [], x => ⟨by simp, fun y hy => by simp at hy; subst hy; exact Int.le_refl _⟩
  | z :: xs, x => by
    simp only [List.foldl_cons]
    obtain ⟨h1, h2⟩ := maxL_fold xs (if z > x then z else x)
    constructor
    · rcases List.mem_cons.mp h1 with e | e
      · rw [e]; split <;> simp
      · exact List.mem_cons_of_mem _ (List.mem_cons_of_mem _ e)
    · intro y hy
      have h3 := h2 _ List.mem_cons_self
      rcases List.mem_cons.mp hy with e | e
      · subst e; split at h3 <;> rename_i hz
        · simp only [hz, if_true]; omega
        · simp only [hz, if_false]; exact h3
      · rcases List.mem_cons.mp e with e | e
        · subst e; split at h3 <;> rename_i hz
          · simp only [hz, if_true]; exact h3
          · simp only [hz, if_false]; omega
        · exact h2 y (List.mem_cons_of_mem _ e)
theorem minL_fold : ∀ (xs : List Int) (x : Int), (xs.foldl (fun a b => if b < a then b else a) x) ∈ x :: xs ∧ ∀ y ∈ x :: xs, xs.foldl (fun a b => if b < a then b else a) x ≤ y
  | [], x => ⟨by simp, fun y hy => by simp at hy; subst hy; exact Int.le_refl _⟩
  | z :: xs, x => by
    simp only [List.foldl_cons]
    obtain ⟨h1, h2⟩ := minL_fold xs (if z < x then z else x)
    constructor
    · rcases List.mem_cons.mp h1 with e | e
      · rw [e]; split <;> simp
      · exact List.mem_cons_of_mem _ (List.mem_cons_of_mem _ e)
    · intro y hy
      have h3 := h2 _ List.mem_cons_self
      rcases List.mem_cons.mp hy with e | e
      · subst e; split at h3 <;> rename_i hz
        · simp only [hz, if_true]; omega
        · simp only [hz, if_false]; exact h3
      · rcases List.mem_cons.mp e with e | e
        · subst e; split at h3 <;> rename_i hz
          · simp only [hz, if_true]; exact h3
          · simp only [hz, if_false]; omega
        · exact h2 y (List.mem_cons_of_mem _ e)
theorem maxL_is {ns : List Int} {M m : Int} (h : maxL ns = some M) (h1 : m ∈ ns) (h2 : ∀ y ∈ ns, y ≤ m) : m = M := by
  cases ns with
  | nil => cases h
  | cons x xs =>
    cases h
    obtain ⟨a, b⟩ := maxL_fold xs x
    exact Int.le_antisymm (b m h1) (h2 _ a)
theorem minL_is {ns : List Int} {M m : Int} (h : minL ns = some M) (h1 : m ∈ ns) (h2 : ∀ y ∈ ns, m ≤ y) : m = M := by
  cases ns with
  | nil => cases h
  | cons x xs =>
    cases h
    obtain ⟨a, b⟩ := minL_fold xs x
    exact Int.le_antisymm (h2 _ a) (b m h1)
theorem m_max (hc : X.calm = true) (hg : Gl X "max") (hm : X.mg "max" = none) (he : PE X e (tSl C X.K W f)) (hs : starEach (e :: []) X.env = (false, eval e X.env) :: starEach [] X.env) (hp : (backTo pos (starEach [] X.env)).any (·.1) = false) :
    PE X (.Call (.Name "max" p) [e] [] pos) (tE C X.K W (eInts maxL f)) :=
  pe_weak (pe_callB (cr_max hc) hg hm (by decide +kernel) (pa_cons he pa_nil hs) (by decide) (by decide) hs hp) fun σ H Q t => one_l (fun m H h xs a vs Q s q rr p => by
    split at p
    · rename_i ns hn
      split at p
      · rename_i M hM
        rw [intsOf_map hn] at rr
        rw [VRs.ints rr] at q
        refine ⟨a, ns, rfl, q, ?_, fun z h1 h2 => ?_⟩
        · cases ns with
          | nil => cases hM
          | cons _ _ => exact Nat.succ_pos _
        · rw [maxL_is hM h1 h2]
          exact post_int s p
      · exact p.elim
    · exact p.elim) t
theorem m_min (hc : X.calm = true) (hg : Gl X "min") (hm : X.mg "min" = none) (he : PE X e (tSl C X.K W f)) (hs : starEach (e :: []) X.env = (false, eval e X.env) :: starEach [] X.env) (hp : (backTo pos (starEach [] X.env)).any (·.1) = false) :
    PE X (.Call (.Name "min" p) [e] [] pos) (tE C X.K W (eInts minL f)) :=
  pe_weak (pe_callB (cr_min hc) hg hm (by decide +kernel) (pa_cons he pa_nil hs) (by decide) (by decide) hs hp) fun σ H Q t => one_l (fun m H h xs a vs Q s q rr p => by
    split at p
    · rename_i ns hn
      split at p
      · rename_i M hM
        rw [intsOf_map hn] at rr
        rw [VRs.ints rr] at q
        refine ⟨a, ns, rfl, q, ?_, fun z h1 h2 => ?_⟩
        · cases ns with
          | nil => cases hM
          | cons _ _ => exact Nat.succ_pos _
        · rw [minL_is hM h1 h2]
          exact post_int s p
      · exact p.elim
    · exact p.elim) t
end

/-! ### sorted of ints, of a list or a tuple -/
open PyProof.Rows in
theorem gather {prog : Program} {w : World} {A : Around} {E : Value → Shared → Prop} {s : Shared} {l : Addr} {T : String} {o : Obj} {vs : List Value} {n : Nat} {Q : List Value → Shared → Prop}
    (hT : T = "list" ∨ T = "tuple") (ho : s.heap.get? l = some o) (hc : o.cls = .type T) (hd : o.data = .seq vs.toArray n) (hz : vs.length ≤ sizeLine)
    (h : Q vs { s with heap := (s.heap.push (seqObj "list" #[] 0)).update s.heap.objs.size (Obj.mapSeq (· ++ vs.toArray)) }) : wpAny (model prog w) A (collect (.ref l)) Q E s := by
  have h0 : (s.heap.push (seqObj "list" #[] 0)).get? s.heap.objs.size = some { cls := .type "list", data := .seq #[] 0 } := Heap.get?_push_size _ rfl
  have h1 : (s.heap.push (seqObj "list" #[] 0)).get? l = some o := Heap.get?_push_of_some _ ho
  have h2 := Heap.get?_update_self (Obj.mapSeq (· ++ vs.toArray)) h0 rfl
  unfold collect
  refine wpAny_bind (wpAny_runValue (codeAny_builtin entry_proto_collect' ?_))
  show wpAny _ _ (newList [] >>= fun x => again (.builtin "list.__iadd__" ⟨[x, .ref l], []⟩)) _ _ s
  refine wpAny_bind (wpAny_newList (wpAny_pure ⟨Code.quiet_builtin _ (by decide +kernel), codeAny_builtin entry_list_iadd' ?_⟩))
  have last : wpAny (model prog w) A (do
      let o ← load s.heap.objs.size
      match o.data with
      | .seq xs _ => pure xs.toList
      | _ => unsupported "internal:collect") Q E { s with heap := (s.heap.push (seqObj "list" #[] 0)).update s.heap.objs.size (Obj.mapSeq (· ++ vs.toArray)) } := by
    refine wpAny_bind (wpAny_load h2 ?_)
    show wpAny _ _ (pure ((#[] : Array Value) ++ vs.toArray).toList) Q E _
    have e : ((#[] : Array Value) ++ vs.toArray).toList = vs := by simp
    rw [e]
    exact wpAny_pure h
  refine wpAny_mono (Q := fun fin s' => match fin with
      | .done f => (f = .ret (.ref s.heap.objs.size) ∧ s' = { s with heap := (s.heap.push (seqObj "list" #[] 0)).update s.heap.objs.size (Obj.mapSeq (· ++ vs.toArray)) })
      | .again c' => False) (E := fun _ _ => False) ?_ (fun fin s' q => ?_) fun _ _ q => q.elim
  · show wpAny _ _ (Builtin.List.listExtendWith (.ref s.heap.objs.size) (.ref l) (.ref s.heap.objs.size)) _ _ { s with heap := s.heap.push (seqObj "list" #[] 0) }
    unfold Builtin.List.listExtendWith
    refine wpAny_bind (wpAny_typeOf (T := T) ⟨o, h1, hc⟩ ?_)
    have ht : (Builtin.List.listSameRef (.ref s.heap.objs.size) (.ref l) || Value.type T == Value.type "list" || Value.type T == Value.type "tuple") = true := by
      rcases hT with rfl | rfl
      · simp
      · simp
    rw [if_pos ht]
    refine wpAny_bind (listItems_at h1 hd ?_)
    refine wpAny_bind (listItems_at (xs := #[]) (n := 0) h0 rfl ?_)
    rw [if_neg (by simp)]
    refine wpAny_bind (listUpdate_at (xs := #[]) (n := 0) h0 rfl ?_ (Nat.zero_le _) (by show (#[] ++ vs.toArray).size ≤ sizeLine + 1; simp only [Array.size_append, List.size_toArray, List.length_nil]; omega))
    exact wpAny_pure ⟨rfl, rfl⟩
  · cases fin with
    | done f =>
      obtain ⟨rfl, rfl⟩ := q
      exact last
    | again c' => exact q.elim
open PyProof.Rows in
theorem sorted_seq {prog : Program} {w : World} {A : Around} {E : Value → Shared → Prop} {s : Shared} {l : Addr} {T : String} {o : Obj} {vs : List Value} {n : Nat} {ltv : Value → Value → Bool} {Q : Value → Shared → Prop} (O : SrtO.Swo ltv)
    (hT : T = "list" ∨ T = "tuple") (ho : s.heap.get? l = some o) (hc : o.cls = .type T) (hd : o.data = .seq vs.toArray n) (hz : vs.length ≤ sizeLine)
    (hS : 2 ≤ vs.length → ∀ (h₁ : Heap) (a : Addr), (∀ b u, s.heap.get? b = some u → b ≠ a ∧ h₁.get? b = some u) → SrtO.SortableO prog w A.in1.in1 { s with heap := h₁ } a vs ltv)
    (h : ∀ (out : List Value), SrtO.Srtd ltv out → SrtO.Stb ltv out vs → Q (.ref (s.heap.objs.size + 1)) { s with heap := sortedAll s.heap vs out.toArray }) :
    wpAny (model prog w) A (call (.builtin "sorted") [.ref l]) Q E s := by
  have sz : ((s.heap.push (seqObj "list" #[] 0)).update s.heap.objs.size (Obj.mapSeq (· ++ vs.toArray))).objs.size = s.heap.objs.size + 1 := by
    rw [Heap.size_update]
    simp
  generalize hG : (s.heap.push (seqObj "list" #[] 0)).update s.heap.objs.size (Obj.mapSeq (· ++ vs.toArray)) = G at sz
  have kG : ∀ b u, s.heap.get? b = some u → b < s.heap.objs.size ∧ G.get? b = some u := fun b u q => by
    have hlt := Heap.lt_size q
    refine ⟨hlt, ?_⟩
    rw [← hG, Heap.get?_update_ne _ _ _ _ (Nat.ne_of_lt hlt)]
    exact Heap.get?_push_of_some _ q
  have hoL : (G.push (seqObj "list" vs.toArray 0)).get? (s.heap.objs.size + 1) = some (seqObj "list" vs.toArray 0) := by
    rw [← sz]; exact Heap.get?_push_size _ rfl
  have hA : sortedAll s.heap vs = sortedHeap (G.push (seqObj "list" vs.toArray 0)) (s.heap.objs.size + 1) vs := by
    funext out
    unfold sortedAll
    rw [hG]
  rw [hA] at h
  refine Calls.call_function_entry kind_sorted plain_sorted entry_sorted (args_sorted1 _) ?_
  unfold Builtin.«sorted»
  refine wpAny_bind (m := checkCount "sorted" 1 1 _) (wpAny_pure ?_)
  refine wpAny_bind (gather hT ho hc hd hz ?_)
  rw [hG]
  refine wpAny_bind (wpAny_newList ?_ hz)
  show wpAny _ _ _ _ _ { s with heap := G.push (seqObj "list" vs.toArray 0) }
  rw [sz]
  refine wpAny_bind (wpAny_holding (wpAny_call_entry slot_list_sort ⟨_, hoL, rfl⟩ entry_list_sort (SrtO.list_sort_ord O hoL hz (fun h2 => hS h2 _ _ fun b u q => ?_) fun out h1 h2 => ⟨_, rfl, ?_⟩) (args_list_sort _)))
  · obtain ⟨hlt, q1⟩ := kG b u q
    exact ⟨Nat.ne_of_lt (Nat.lt_succ_of_lt hlt), Heap.get?_push_of_some _ q1⟩
  · exact wpAny_pure ⟨_, rfl, h out h1 h2⟩

theorem int_seq {X : Cx} {pins : List (Addr × Obj)} {σ : St} {H : Hp} {s : Shared} (I : Inv X pins σ H s) {a : Addr} {ns : List Int} (q : SqL X.K H a (ns.map V.int) ∨ SqT X.K H a (ns.map V.int)) :
    ∃ (T : String) (o : Obj) (its : List Value) (n : Nat), (T = "list" ∨ T = "tuple") ∧ s.heap.get? a = some o ∧ o.cls = .type T ∧ o.data = .seq its.toArray n ∧ its.length ≤ sizeLine ∧ PyProof.Rows.IntsAre its ns := by
  rcases q with q | q
  · obtain ⟨its, rv, ⟨o, n, ho, hc, _, hd⟩, hz⟩ := I.list q
    exact ⟨"list", o, its, n, .inl rfl, ho, hc, hd, by rw [← rv.length]; exact hz, rv.ints⟩
  · obtain ⟨its, rv, ⟨o, ho, hc, n, hd⟩, hz⟩ := I.tuple q
    exact ⟨"tuple", o, its, n, .inr rfl, ho, hc, hd, by rw [← rv.length]; exact hz, rv.ints⟩
theorem cr_sortedQ {X : Cx} : CallR X (.builtin "sorted") (fun vs H Q => ∃ (a : Addr) (ns : List Int), vs = [V.ref a] ∧ (SqL X.K H a (ns.map V.int) ∨ SqT X.K H a (ns.map V.int)) ∧
    ∀ (p : Addr), H p = none → Q (.ref p) (upd H p (.lst ((sortI ns).map V.int)))) := by
  intro pins s σ H vs us Q I r h
  obtain ⟨a, ns, rfl, hs, q⟩ := h
  obtain ⟨T, o, its, n, hT, ho, hc, hd, hz, hi⟩ := int_seq I hs
  rw [Vals.ref1 r]
  refine sorted_seq SrtO.swo_int hT ho hc hd hz (fun h2 h₁ a' _ => SrtO.ints_sortable hi h2) fun out h1 h2 => ?_
  obtain ⟨k1, k2, k3⟩ := SrtO.ints_out hi h1 h2
  obtain ⟨ep, he'⟩ := PyProof.Rows.sortedAll_at s.heap its out.toArray
  have e : out.map SrtO.iv = sortI ns := sorted_eq k3 (sortI_sorted ns) (k2.trans (sortI_perm ns).symm)
  have hlen : ((sortI ns).map V.int).length ≤ sizeLine := by
    rw [List.length_map, (sortI_perm ns).length_eq, ← hi.length]
    exact hz
  rw [e] at k1
  exact ⟨.ref _, upd H (s.heap.objs.size + 1) (.lst ((sortI ns).map V.int)), I.laid (t' := s.toks) (fun _ _ => PyProof.Rows.sortedAll_old) (Nat.le_succ _) ⟨hlen, out, ep, vals_of_ints k1, he'⟩, rfl, q _ (I.hok.fresh (Nat.le_succ _))⟩
theorem m_sorted {e : Expr} {p pos : Pos} {f : IEnv → IH → R (List IV)} (hg : Gl X "sorted") (hm : X.mg "sorted" = none) (he : PE X e (tSq C X.K W f)) (hs : starEach (e :: []) X.env = (false, eval e X.env) :: starEach [] X.env) (hp : (backTo pos (starEach [] X.env)).any (·.1) = false) :
    PE X (.Call (.Name "sorted" p) [e] [] pos) (tL C X.K W (lInts sortI f)) :=
  pe_weak (pe_callB cr_sortedQ hg hm (by decide +kernel) (pa_cons he pa_nil hs) (by decide) (by decide) hs hp) fun σ H Q t => one_q (fun m H h xs a vs Q s q rr p => by
    split at p
    · rename_i ns hn
      rw [intsOf_map hn] at rr
      rw [VRs.ints rr] at q
      exact ⟨a, ns, rfl, q.imp id SqN.sq, fun l hl => post_lst s p (VRs.of_ints _) hl⟩
    · exact p.elim) t

/-! ### sorted(set(..)) -/
theorem cr_setTupI {X : Cx} (hc : X.calm = true) : CallR X (.type "set") (fun vs H Q => ∃ (a : Addr) (ns : List Int), vs = [V.ref a] ∧ SqT X.K H a (ns.map V.int) ∧ ns.length + 1 < scanBound ∧
    ∀ (p : Addr) (n : Nat), H p = none → n ≤ ns.length → Q (.ref p) (upd H p (SetO X.w p (fun j => decide (j ∈ ns)) n))) := by
  intro pins s σ H vs us Q I r h
  obtain ⟨a, ns, rfl, hs, hb, q⟩ := h
  obtain ⟨its, rv, pt, hz⟩ := I.tuple hs
  rw [Vals.ref1 r]
  have hi : PyProof.Rows.IntsAre its.toArray.toList ns := rv.ints
  refine call_set_tupI ns (I.ok.hd hc) (show s.heap.IsTuple a its.toArray from pt) hi hb fun h' tk c R hcn k => ?_
  have hf := I.hok.fresh (Nat.le_refl s.heap.objs.size)
  exact ⟨.ref _, _, I.laid (t' := tk) k (Nat.le_refl _) (setO_new R), rfl, q _ c hf hcn⟩
/-- sorted(set(t)), t a tuple of ints -/
theorem m_sortSet {e : Expr} {p p2 pos pos2 : Pos} {f : EM} (hc : X.calm = true) (hg : Gl X "sorted") (hm : X.mg "sorted" = none) (hg2 : Gl X "set") (hm2 : X.mg "set" = none) (he : PE X e (tE C X.K W f))
    (hs : starEach (e :: []) X.env = (false, eval e X.env) :: starEach [] X.env) (hp : (backTo pos2 (starEach [] X.env)).any (·.1) = false)
    (hs2 : starEach (.Call (.Name "set" p2) [e] [] pos2 :: []) X.env = (false, eval (.Call (.Name "set" p2) [e] [] pos2) X.env) :: starEach [] X.env) (hp2 : (backTo pos (starEach [] X.env)).any (·.1) = false) :
    PE X (.Call (.Name "sorted" p) [.Call (.Name "set" p2) [e] [] pos2] [] pos) (tL C X.K W (lSortSet fun env h => (f env h).bind fun x h1 => match x with
      | .tup xs => .ok xs h1
      | _ => .bad)) :=
  pe_weak (pe_callB (cr_sortedSet hc) hg hm (by decide +kernel) (pa_cons (pe_callTy (cr_setTupI hc) hg2 hm2 (by decide +kernel) (pa_cons he pa_nil hs) (by decide) (by decide) hs hp) pa_nil hs2) (by decide) (by decide) hs2 hp2) fun σ H Q ⟨m, env, h, er, sr, p⟩ => by
    refine ⟨m, env, h, er, sr, ?_⟩
    unfold lSortSet at p
    dsimp only at p
    cases hf : f env h with
    | exc x h1 => rw [hf] at p; exact p
    | bad => rw [hf] at p; exact p.elim
    | ok x h1 =>
      rw [hf] at p
      intro m1 H1 u g1 s1 r1
      cases x <;> first | exact p.elim | skip
      rename_i xs
      simp only [R.bind] at p
      cases hi : intsOf xs with
      | none => rw [hi] at p; exact p.elim
      | some ns =>
        rw [hi] at p
        dsimp only at p
        by_cases hlen : ns.length < 60
        · rw [if_pos hlen] at p
          have r1 : VR X.K m1 H1 (.tup xs) u := r1
          simp only [VR] at r1
          obtain ⟨a, vs, rfl, t, rr⟩ := r1
          rw [intsOf_map hi] at rr
          rw [VRs.ints rr] at t
          refine ⟨a, ns, rfl, t.sq, by unfold scanBound; omega, fun q n hq hn => ⟨q, _, n, rfl, upd_same, by omega, fun ns' l pw mem ln hl => ?_⟩⟩
          have e : ns' = sortU ns := sortedU_eq pw (sortU_sorted ns) fun z => by
            rw [mem z, sortU_mem, decide_eq_true_eq]
          rw [e]
          have g2 : Go X.K m1 H1 m1 (upd (upd H1 q (SetO X.w q (fun j => decide (j ∈ ns)) n)) l (.lst ((sortU ns).map V.int))) := (Go.laid hq).trans (Go.laid hl)
          have s2 : SR X.K m1 (upd H1 q (SetO X.w q (fun j => decide (j ∈ ns)) n)) h1 := s1.laid hq
          have hl1 : H1 l = none := by
            cases z : H1 l with
            | none => rfl
            | some o => rw [upd_ne (ne_of_none z hq), z] at hl; cases hl
          refine p m1 _ _ (g1.trans g2) (s2.laid hl) ⟨l, _, rfl, s2.fresh hl, fun hlm => ?_, upd_same, VRs.of_ints _⟩
          exact fresh_back g1 (fun _ => hl1) hlm
        · rw [if_neg hlen] at p; exact p.elim

/-! ### repr -/
theorem cr_reprD {X : Cx} (hgd : X.A.guards = some []) (hu : X.A.units + 80 < cLine) : CallR X (.builtin "repr") (fun vs H Q => ∃ (a : Addr) (d : PyData), vs = [V.ref a] ∧ Dp X.K H (.ref a) d ∧ SeqAt.shaped d = true ∧ d.showable = true ∧ d.shown.length ≤ sizeLine ∧ Q (.str d.shown) H) := by
  intro pins s σ H vs us Q I r h
  obtain ⟨a, d, rfl, hd, hs, hw, hz, q⟩ := h
  obtain ⟨as, rd⟩ := Dp.reads I d (.ref a) (.ref a) hd rfl
  rw [Vals.ref1 r]
  refine repr_of_reads' rd hw (PyData.noDict_hsm (PyData.hasDict_of_canLay d (SeqAt.canLay_of_shaped hs))) hgd ?_ (fun _ _ e => e) (fun h' u tk k => ?_) hz
  · have := SeqAt.depth_of_shaped hs
    omega
  · exact ⟨.str d.shown, H, I.kept (t' := tk) k, ⟨u, rfl⟩, q⟩
theorem toD_ref {K : PySem.W.Frag} {m : List Addr} {H : Hp} {h : IH} {x : IV} {u : V} (r : VR K m H x u) (hx : (∃ xs, x = .tup xs) ∨ (∃ k, x = .ref k)) : ∃ a, u = .ref a := by
  rcases hx with ⟨xs, rfl⟩ | ⟨k, rfl⟩
  · simp only [VR] at r
    obtain ⟨a, vs, rfl, _⟩ := r
    exact ⟨a, rfl⟩
  · simp only [VR] at r
    obtain ⟨a, _, rfl⟩ := r
    exact ⟨a, rfl⟩
theorem call_repr_i {X : Cx} : CallR X (.builtin "repr") (fun xs H Q => ∃ i, xs = [V.int i] ∧ i.natAbs.log2 < 1920 ∧ Q (.str (toString i)) H) := by
  intro pins s σ H xs us Q I r h
  obtain ⟨i, rfl, hz, q⟩ := h
  obtain ⟨u, rfl, t, rfl⟩ := vals1 r
  exact PySem.P.repr_of_int hz ⟨.str _, H, I.tok _, ⟨_, rfl⟩, q⟩
theorem m_repr {e : Expr} {p pos : Pos} {f : EM} (hgd : X.A.guards = some []) (hu : X.A.units + 80 < cLine) (hg : Gl X "repr") (hm : X.mg "repr" = none) (he : PE X e (tE C X.K W f)) (hs : starEach (e :: []) X.env = (false, eval e X.env) :: starEach [] X.env) (hp : (backTo pos (starEach [] X.env)).any (·.1) = false) :
    PE X (.Call (.Name "repr" p) [e] [] pos) (tE C X.K W (e1 uRepr f)) :=
  pe_weak (pe_callB ((cr_reprD hgd hu).or call_repr_i) hg hm (by decide +kernel) (pa_cons he pa_nil hs) (by decide) (by decide) hs hp) fun σ H Q t => one_v (fun m H h x u Q s r p => by
    have go : ∀ {d}, toD h 66 x = some d → ((∃ xs, x = .tup xs) ∨ (∃ k, x = .ref k)) → Post C X.K W σ m H (rV X.K) Q (rpr d h) → ∃ (a : Addr) (d : PyData), [u] = [V.ref a] ∧ Dp X.K H (.ref a) d ∧ SeqAt.shaped d = true ∧ d.showable = true ∧ d.shown.length ≤ sizeLine ∧ Q (.str d.shown) H := by
      intro d hd hx q
      obtain ⟨a, rfl⟩ := toD_ref (h := h) r hx
      unfold rpr at q
      split at q
      · rename_i hc
        exact ⟨a, d, rfl, toD_dp s _ _ _ _ r hd, hc.1, hc.2.1, hc.2.2, post_str s q⟩
      · exact q.elim
    unfold uRepr at p
    split at p
    · rename_i xs _
      split at p
      · exact .inl (go (by assumption) (.inl ⟨_, rfl⟩) p)
      · exact p.elim
    · split at p
      · exact .inl (go (by assumption) (.inr ⟨_, rfl⟩) p)
      · exact p.elim
    · split at p
      · simp only [rV, VR] at r
        subst r
        exact .inr ⟨_, rfl, by assumption, post_str s p⟩
      · exact p.elim
    · exact p.elim) t
theorem optAll_dp {K : PySem.W.Frag} {m : List Addr} {H : Hp} {h : IH} (s : SR K m H h) : ∀ {xs : List IV} {vs : List V} {ds : List PyData}, VRs K m H xs vs → optAll (toD h 66) xs = some ds → DpAll K H vs ds
  | [], _, _, r, e => by
    simp only [VRs] at r
    subst r
    cases e
    exact .nil
  | x :: xs, _, _, r, e => by
    simp only [VRs] at r
    obtain ⟨v, q, rfl, r1, r2⟩ := r
    obtain ⟨d1, d2, e1, e2, rfl⟩ := optAll_cons e
    exact .cons (toD_dp s _ _ _ _ r1 e1) (optAll_dp s r2 e2)
theorem m_reprL {e : Expr} {p pos : Pos} {f : IEnv → IH → R (List IV)} (hgd : X.A.guards = some []) (hu : X.A.units + 80 < cLine) (hg : Gl X "repr") (hm : X.mg "repr" = none) (he : PE X e (tL C X.K W f)) (hs : starEach (e :: []) X.env = (false, eval e X.env) :: starEach [] X.env) (hp : (backTo pos (starEach [] X.env)).any (·.1) = false) :
    PE X (.Call (.Name "repr" p) [e] [] pos) (tE C X.K W (eReprL f)) :=
  pe_weak (pe_callB (cr_reprD hgd hu) hg hm (by decide +kernel) (pa_cons (pe_lL he) pa_nil hs) (by decide) (by decide) hs hp) fun σ H Q t => one_l (fun m H h xs a vs Q s q rr p => by
    split at p
    · rename_i ds hd
      unfold rpr at p
      split at p
      · rename_i hc
        exact ⟨a, .list ds, rfl, .lst q (optAll_dp s rr hd), hc.1, hc.2.1, hc.2.2, post_str s p⟩
      · exact p.elim
    · exact p.elim) t

/-! ### methods of lists -/
def MthM (X : Cx) (C : Cc) (id : String) (o : IV → List IV → IH → R IV) : Prop :=
  ∃ r, MtR X id r ∧ ∀ (W : WX) (σ : St) m H h x ys u vs (Q : VK), SR X.K m H h → VR X.K m H x u → VRs X.K m H ys vs → Post C X.K W σ m H (rV X.K) Q (o x ys h) → r u vs H Q
theorem m_meth {id : String} {name : Str} {o : IV → List IV → IH → R IV} {obj e : Expr} {es : List Expr} {apos pos : Pos} {f : EM} {g : IEnv → IH → R (List IV)} (hm : MthM X C id o) (ho : PE X obj (tE C X.K W f)) (ha : PA X (e :: es) (tA C X.K W g))
    (mk : ∀ {r : V → List V → Hp → VK → Prop} {t : TA} {to : TE}, MtR X id r → PE X obj to → PA X (e :: es) t → PE X (.Call (.Attribute obj name apos) (e :: es) [] pos) (tBM X.K "list" r to t)) :
    PE X (.Call (.Attribute obj name apos) (e :: es) [] pos) (tE C X.K W (eMth o f g)) := by
  obtain ⟨r, h1, h2⟩ := hm
  refine pe_weak (mk h1 ho ha) fun σ H Q ⟨m, env, h, er, sr, p⟩ => ⟨m, env, h, er, sr, tg_run p fun m1 H1 x hh u g1 s1 r1 p1 => ?_⟩
  cases x <;> first | exact p1.elim | skip
  rename_i k
  dsimp only at p1
  split at p1
  · rename_i xs hk
    obtain ⟨a, vs, e1, q, rr⟩ := s1.get hk
    have r2 : VR X.K m1 H1 (.ref k) u := r1
    simp only [VR] at r2
    obtain ⟨a', e2, rfl⟩ := r2
    rw [e1] at e2; cases e2
    refine ⟨.inl ⟨rfl, _, SqL.of q⟩, m1, env, hh, er.mono g1, s1, tg_run p1 fun m2 H2 ys h2' us g2 s2 r2 p2 => ?_⟩
    exact h2 W σ m2 H2 h2' _ ys _ us Q s2 (VR.mono g2 _ _ r1) r2 p2
  · exact p1.elim
theorem m_meth0 {id : String} {name : Str} {o : IV → List IV → IH → R IV} {obj : Expr} {apos pos : Pos} {f : EM} (hm : MthM X C id o) (ho : PE X obj (tE C X.K W f))
    (mk : ∀ {r : V → List V → Hp → VK → Prop} {to : TE}, MtR X id r → PE X obj to → PE X (.Call (.Attribute obj name apos) [] [] pos) (tBM0 X.K "list" r to)) :
    PE X (.Call (.Attribute obj name apos) [] [] pos) (tE C X.K W (eMth0 o f)) := by
  obtain ⟨r, h1, h2⟩ := hm
  refine pe_weak (mk h1 ho) fun σ H Q ⟨m, env, h, er, sr, p⟩ => ⟨m, env, h, er, sr, tg_run p fun m1 H1 x hh u g1 s1 r1 p1 => ?_⟩
  cases x <;> first | exact p1.elim | skip
  rename_i k
  dsimp only at p1
  split at p1
  · rename_i xs hk
    obtain ⟨a, vs, e1, q, rr⟩ := s1.get hk
    have r2 : VR X.K m1 H1 (.ref k) u := r1
    simp only [VR] at r2
    obtain ⟨a', e2, rfl⟩ := r2
    rw [e1] at e2; cases e2
    exact ⟨.inl ⟨rfl, _, SqL.of q⟩, h2 W σ m1 H1 hh _ [] _ [] Q s1 r1 (by simp only [VRs]) p1⟩
  · exact p1.elim
/-- a list of the small heap at hand -/
theorem lst_at {K : PySem.W.Frag} {m : List Addr} {H : Hp} {h : IH} {k : Nat} {u : V} {xs : List IV} (s : SR K m H h) (r : VR K m H (.ref k) u) (e : h[k]? = some (.lst xs)) : ∃ a vs, u = .ref a ∧ m[k]? = some a ∧ H a = some (.lst vs) ∧ VRs K m H xs vs := by
  obtain ⟨a, vs, e1, q, rr⟩ := s.get e
  simp only [VR] at r
  obtain ⟨a', e2, rfl⟩ := r
  rw [e1] at e2; cases e2
  exact ⟨a, vs, rfl, e1, q, rr⟩
/-- behind a store -/
theorem post_set {σ : St} {m : List Addr} {H : Hp} {h : IH} {Q : VK} {k : Nat} {a : Addr} {vs ws : List V} {ys : List IV} {x : IV} {u : V} (s : SR X.K m H h) (e : m[k]? = some a) (ha : H a = some (.lst vs)) (rr : VRs X.K m H ys ws) (r : VR X.K m H x u)
    (p : Post C X.K W σ m H (rV X.K) Q (.ok x (h.set k (.lst ys)))) : Q u (upd H a (.lst ws)) :=
  p m _ u (Go.write e ha) (s.write e ha rr) (VR.mono (Go.write e ha) _ _ r)
theorem one_of {K : PySem.W.Frag} {m : List Addr} {H : Hp} {y : IV} {us : List V} (r : VRs K m H [y] us) : ∃ v, us = [v] ∧ VR K m H y v := by
  simp only [VRs] at r
  obtain ⟨v, q, rfl, r1, rfl⟩ := r
  exact ⟨v, rfl, r1⟩
theorem MtM.r {X : Cx} {id : String} {r : V → List V → Hp → VK → Prop} (h : MtM X id r) : MtR X id r := h
theorem mm_append : MthM X C "list.append" mAppend := by
  refine ⟨_, mt_append, fun W σ m H h x ys u us Q s rx ry p => ?_⟩
  unfold mAppend at p
  split at p
  · rename_i k y
    split at p
    · rename_i xs hk
      split at p
      · rename_i hz
        obtain ⟨a, vs, rfl, e, q, rr⟩ := lst_at s rx hk
        obtain ⟨v, rfl, rv⟩ := one_of ry
        rw [rr.length] at hz
        exact ⟨a, vs, v, rfl, rfl, q, hz, post_set s e q (VRs.append rr (ys := [y]) (ws := [v]) (by simp only [VRs]; exact ⟨v, [], rfl, rv, rfl⟩)) (by simp only [VR]) p⟩
      · exact p.elim
    · exact p.elim
  · exact p.elim
theorem VRs.dropLast {K : PySem.W.Frag} {m : List Addr} {H : Hp} {xs : List IV} {vs : List V} (r : VRs K m H xs vs) : VRs K m H xs.dropLast vs.dropLast := by
  rw [List.dropLast_eq_take, List.dropLast_eq_take, ← r.length]
  exact VRs.take _ r
theorem mm_pop : MthM X C "list.pop" mPop := by
  refine ⟨_, MtR.or mt_pop mt_popAt, fun W σ m H h x ys u us Q s rx ry p => ?_⟩
  unfold mPop at p
  split at p
  · split at p
    · rename_i xs hk
      split at p
      · rename_i y hy
        obtain ⟨a, vs, rfl, e, q, rr⟩ := lst_at s rx hk
        simp only [VRs] at ry
        subst ry
        obtain ⟨v, h1, rv⟩ := rr.get hy
        rw [rr.length] at h1
        exact .inl ⟨a, vs, v, rfl, rfl, q, h1, post_set s e q rr.dropLast rv p⟩
      · exact p.elim
    · exact p.elim
  · split at p
    · rename_i xs hk
      split at p
      · rename_i hz
        split at p
        · rename_i j hj
          split at p
          · rename_i y hy
            obtain ⟨a, vs, rfl, e, q, rr⟩ := lst_at s rx hk
            obtain ⟨v, rfl, rv⟩ := one_of ry
            simp only [VR] at rv
            subst rv
            obtain ⟨v, h1, rv⟩ := rr.get hy
            rw [rr.length] at hj
            exact .inr ⟨a, vs, _, j, v, rfl, rfl, q, hz.1, hz.2, hj, h1, post_set s e q (rr.eraseIdx j) rv p⟩
          · exact p.elim
        · exact p.elim
      · exact p.elim
    · exact p.elim
  · exact p.elim
theorem idxOf_get : ∀ {xs : List IV} {x : IV} {j : Nat}, idxOf x xs = some j → ∃ z, xs[j]? = some z ∧ eqF z x = true ∧ ∀ (m : Nat) z', m < j → xs[m]? = some z' → eqF z' x = false
  | [], _, _, e => by cases e
  | y :: ys, x, j, e => by
    unfold idxOf at e
    split at e
    · rename_i hy
      cases e
      exact ⟨y, rfl, hy, fun m z' hm => absurd hm (Nat.not_lt_zero _)⟩
    · rename_i hy
      cases hi : idxOf x ys with
      | none => rw [hi] at e; cases e
      | some i =>
        rw [hi] at e; cases e
        obtain ⟨z, h1, h2, h3⟩ := idxOf_get hi
        refine ⟨z, by simpa using h1, h2, fun m z' hm hz => ?_⟩
        cases m with
        | zero =>
          simp at hz; subst hz
          simpa using hy
        | succ m => exact h3 m z' (Nat.lt_of_succ_lt_succ hm) (by simpa using hz)
theorem mm_index : MthM X C "list.index" mIndex := by
  refine ⟨_, mt_index, fun W σ m H h x ys u us Q s rx ry p => ?_⟩
  unfold mIndex at p
  split at p
  · split at p
    · rename_i xs hk
      split at p
      · rename_i hf
        split at p
        · rename_i j hj
          obtain ⟨a, vs, rfl, e, q, rr⟩ := lst_at s rx hk
          obtain ⟨v, rfl, rv⟩ := one_of ry
          obtain ⟨z, h1, h2, h3⟩ := idxOf_get hj
          obtain ⟨w, h4, rw'⟩ := rr.get h1
          have fz : flat z = true := List.all_eq_true.mp hf.2 z (List.mem_of_getElem? h1)
          refine ⟨a, vs, v, j, w, rfl, rfl, .of q, flat_of rv hf.1, flats_of rr hf.2, h4, by rw [eqF_of rw' rv fz hf.1]; exact h2, fun i w' hi hw => ?_, post_int s p⟩
          have hil : i < xs.length := by
            rw [rr.length]; exact (List.getElem?_eq_some_iff.mp hw).1
          obtain ⟨w2, h5, r5⟩ := rr.get (List.getElem?_eq_getElem hil)
          rw [hw] at h5; cases h5
          have f5 : flat xs[i] = true := List.all_eq_true.mp hf.2 _ (List.getElem_mem hil)
          rw [eqF_of r5 rv f5 hf.1]
          exact h3 i _ hi (List.getElem?_eq_getElem hil)
        · exact p.elim
      · exact p.elim
    · exact p.elim
  · exact p.elim
end
end
end MM
/-! M4: statements, targets, loops, comprehensions -/
namespace MM
open PySem L2

/-! ### equality of values, by form -/
mutual
def eqIV : IV → IV → Bool
  | .non, .non => true
  | .bl a, .bl b => a == b
  | .int a, .int b => a == b
  | .str a, .str b => a == b
  | .scr a, .scr b => a == b
  | .ref a, .ref b => a == b
  | .tup a, .tup b => eqIVs a b
  | _, _ => false
def eqIVs : List IV → List IV → Bool
  | [], [] => true
  | x :: xs, y :: ys => eqIV x y && eqIVs xs ys
  | _, _ => false
end
mutual
theorem eqIV_eq : ∀ (x y : IV), eqIV x y = true → x = y
  | .non, y, h => by cases y <;> first | rfl | (simp only [eqIV] at h; cases h)
  | .bl a, y, h => by cases y <;> first | (simp only [eqIV, beq_iff_eq] at h; rw [h]) | (simp only [eqIV] at h; cases h)
  | .int a, y, h => by cases y <;> first | (simp only [eqIV, beq_iff_eq] at h; rw [h]) | (simp only [eqIV] at h; cases h)
  | .str a, y, h => by cases y <;> first | (simp only [eqIV, beq_iff_eq] at h; rw [h]) | (simp only [eqIV] at h; cases h)
  | .scr a, y, h => by cases y <;> first | (simp only [eqIV, beq_iff_eq] at h; rw [h]) | (simp only [eqIV] at h; cases h)
  | .ref a, y, h => by cases y <;> first | (simp only [eqIV, beq_iff_eq] at h; rw [h]) | (simp only [eqIV] at h; cases h)
  | .tup a, y, h => by cases y <;> first | (simp only [eqIV] at h; rw [eqIVs_eq _ _ h]) | (simp only [eqIV] at h; cases h)
theorem eqIVs_eq : ∀ (x y : List IV), eqIVs x y = true → x = y
  | [], [], _ => rfl
  | [], _ :: _, h => by simp only [eqIVs] at h; cases h
  | _ :: _, [], h => by simp only [eqIVs] at h; cases h
  | x :: xs, y :: ys, h => by
    simp only [eqIVs, Bool.and_eq_true] at h
    rw [eqIV_eq _ _ h.1, eqIVs_eq _ _ h.2]
end
mutual
theorem eqIV_refl : ∀ (x : IV), eqIV x x = true
  | .non => by simp only [eqIV]
  | .bl a => by simp [eqIV]
  | .int a => by simp [eqIV]
  | .str a => by simp [eqIV]
  | .scr a => by simp [eqIV]
  | .ref a => by simp [eqIV]
  | .tup a => by simp only [eqIV]; exact eqIVs_refl a
theorem eqIVs_refl : ∀ (x : List IV), eqIVs x x = true
  | [] => by simp only [eqIVs]
  | x :: xs => by simp only [eqIVs, Bool.and_eq_true]; exact ⟨eqIV_refl x, eqIVs_refl xs⟩
end

abbrev SM := IEnv → IH → RS
abbrev GM := IV → IEnv → IH → Option (IEnv × IH)
abbrev ItM := IEnv → IH → R (List IV × (IH → Bool))

/-! ### combinators -/
def sNil : SM := fun e h => .nx e h
def sSeq (f g : SM) : SM := fun e h => match f e h with
  | .nx e1 h1 => g e1 h1
  | r => r
def RS.of {α : Type} (e : IEnv) (r : R α) (k : α → IH → RS) : RS := match r with
  | .ok a h => k a h
  | .exc x h => .exc x e h
  | .bad => .bad
def sExpr (f : EM) : SM := fun e h => RS.of e (f e h) fun _ h1 => .nx e h1
def sRet (f : EM) : SM := fun e h => RS.of e (f e h) fun v h1 => .rt v h1
def sRetN : SM := fun e h => .rt .non h
def sBrk : SM := fun e h => .bk e h
def sCont : SM := fun e h => .ct e h
def sBad : SM := fun _ _ => .bad
def sIf (c : IEnv → IH → R Bool) (f g : SM) : SM := fun e h => RS.of e (c e h) fun b h1 => if b = true then f e h1 else g e h1
def sAsg (f : EM) (g : GM) : SM := fun e h => RS.of e (f e h) fun v h1 => match g v e h1 with
  | some (e2, h2) => .nx e2 h2
  | none => .bad
def sAug (i : Nat) (o : IV → IV → IH → R IV) (f : EM) : SM := fun e h => match e[i]? with
  | some (some x) => RS.of e (f e h) fun y h1 => RS.of e (o x y h1) fun z h2 => .nx (e.set i (some z)) h2
  | _ => .bad
/-- a, b = x, y of plain names -/
def sPar (is : List Nat) (f : IEnv → IH → R (List IV)) : SM := fun e h => RS.of e (f e h) fun vs h1 => if vs.length = is.length then .nx ((is.zip vs).foldl (fun e p => e.set p.1 (some p.2)) e) h1 else .bad
def gNm (i : Nat) : GM := fun v e h => some (e.set i (some v), h)
def gNil' : List IV → IEnv → IH → Option (IEnv × IH)
  | [], e, h => some (e, h)
  | _, _, _ => none
def gCons' (g : GM) (k : List IV → IEnv → IH → Option (IEnv × IH)) : List IV → IEnv → IH → Option (IEnv × IH)
  | v :: vs, e, h => match g v e h with
    | some (e1, h1) => k vs e1 h1
    | none => none
  | [], _, _ => none
def gTp (n : Nat) (k : List IV → IEnv → IH → Option (IEnv × IH)) : GM := fun v e h => match v with
  | .tup xs => if xs.length = n then k xs e h else none
  | _ => none
/-- o[i] = v of a list -/
def gSb (o i : EM) : GM := fun v e h => match o e h with
  | .ok (.ref k) h1 => match i e h1 with
    | .ok (.int j) h2 => match h2[k]? with
      | some (.lst xs) => match ixN xs.length j with
        | some n => some (e, h2.set k (.lst (xs.set n v)))
        | none => none
      | _ => none
    | _ => none
  | _ => none
def forM (G : IH → Bool) (g : GM) (b : SM) : List IV → SM
  | [], e, h => if G h = true then .nx e h else .bad
  | x :: xs, e, h => if G h = true then match g x e h with
    | some (e1, h1) => match b e1 h1 with
      | .nx e2 h2 => forM G g b xs e2 h2
      | .ct e2 h2 => forM G g b xs e2 h2
      | .bk e2 h2 => .nx e2 h2
      | r => r
    | none => .bad else .bad
def sFor (it : ItM) (g : GM) (b : SM) : SM := fun e h => RS.of e (it e h) fun p h1 => forM p.2 g b p.1 e h1
def whileM (c : IEnv → IH → R Bool) (b : SM) : Nat → SM
  | 0, _, _ => .bad
  | n + 1, e, h => RS.of e (c e h) fun t h1 => if t = true then match b e h1 with
    | .nx e2 h2 => whileM c b n e2 h2
    | .ct e2 h2 => whileM c b n e2 h2
    | .bk e2 h2 => .nx e2 h2
    | r => r else .nx e h1
def sWhile (n : IEnv → IH → Nat) (c : IEnv → IH → R Bool) (b : SM) : SM := fun e h => whileM c b (n e h) e h
def wipeE (e : IEnv) : List Nat → IEnv
  | [] => e
  | v :: vs => (wipeE e vs).set v none
/-- no exception leaves a comprehension -/
def R.nox {α : Type} : R α → R α
  | .ok a h => .ok a h
  | _ => .bad
def lcM (G : IH → Bool) (g : GM) (c : IEnv → IH → R Bool) (f : EM) (e : IEnv) : List IV → IH → R (List IV)
  | [], h => if G h = true then .ok [] h else .bad
  | x :: xs, h => if G h = true then match g x e h with
    | some (e1, h1) => (c e1 h1).nox.bind fun t h2 => if t = true then (f e1 h2).nox.bind fun y h3 => (lcM G g c f e xs h3).bind fun ys h4 => .ok (y :: ys) h4 else lcM G g c f e xs h2
    | none => .bad else .bad
def lLc (own : List Nat) (it : ItM) (g : GM) (c : IEnv → IH → R Bool) (f : EM) : IEnv → IH → R (List IV) := fun e h => (it e h).bind fun p h1 => if p.1.length ≤ sizeLine then lcM p.2 g c f (wipeE e own) p.1 h1 else .bad
def tYesM : IEnv → IH → R Bool := fun _ h => .ok true h

/-! ### what is walked -/
def iTup (f : EM) : ItM := fun e h => (f e h).bind fun x h1 => match x with
  | .tup xs => .ok (xs, fun _ => true) h1
  | _ => .bad
def iFresh (f : IEnv → IH → R (List IV)) : ItM := fun e h => (f e h).bind fun xs h1 => .ok (xs, fun _ => true) h1
def stands (k : Nat) (xs : List IV) (h : IH) : Bool := match h[k]? with
  | some (.lst ys) => eqIVs ys xs
  | _ => false
def iLstV (f : EM) : ItM := fun e h => (f e h).bind fun x h1 => match x with
  | .scr ns => .ok (ns.map .int, fun _ => true) h1
  | .ref k => match h1[k]? with
    | some (.lst xs) => .ok (xs, stands k xs) h1
    | _ => .bad
  | _ => .bad
def iRg1 (f : EM) : ItM := fun e h => (f e h).bind fun x h1 => match x with
  | .int n => if rgOk 0 n = true then .ok (lRange 0 n, fun _ => true) h1 else .bad
  | _ => .bad
def iRg2 (f g : EM) : ItM := fun e h => (f e h).bind fun x h1 => (g e h1).bind fun y h2 => match x, y with
  | .int a, .int b => if rgOk a b = true then .ok (lRange a b, fun _ => true) h2 else .bad
  | _, _ => .bad
def enumFrom : Nat → List IV → List IV
  | _, [] => []
  | i, x :: xs => .tup [.int (i : Nat), x] :: enumFrom (i + 1) xs
/-- pairs of an index and an item -/
def iEnum (it : ItM) : ItM := fun e h => (it e h).bind fun p h1 => .ok (enumFrom 0 p.1, p.2) h1

/-! ### readings -/
def ItRel (K : PySem.W.Frag) (m : List Addr) (H : Hp) (J : It) (xs : List IV) (G : IH → Bool) : Prop :=
  ∃ (Gd : Hp → Prop) (Y : Nat → Hp → V → Hp → Prop), Walk J xs.length Gd Y ∧ ∀ m1 H1 h1, Go K m H m1 H1 → SR K m1 H1 h1 → G h1 = true → Gd H1 ∧
    ∀ i x H2, i < xs.length → Y i H1 x H2 → ∃ iv, xs[i]? = some iv ∧ Go K m1 H1 m1 H2 ∧ SR K m1 H2 h1 ∧ VR K m1 H2 iv x
def rI (K : PySem.W.Frag) : Rel (List IV × (IH → Bool)) It := fun _ _ m H p J => ItRel K m H J p.1 p.2
instance {K : PySem.W.Frag} : RelMono K (rI K) := ⟨fun _ r => r⟩
abbrev tIt (C : Cc) (K : PySem.W.Frag) (W : WX) (f : ItM) : TI := tG C K W (rI K) f

def PostS (C : Cc) (K : PySem.W.Frag) (W : WX) (m : List Addr) (H : Hp) (D : Ends) : RS → Prop
  | .nx e h => ∀ m' σ' H', Go K m H m' H' → ER K m' H' e σ' → SR K m' H' h → D.nx σ' H'
  | .rt v h => ∀ m' u H', Go K m H m' H' → VR K m' H' v u → SR K m' H' h → D.rt u H'
  | .bk e h => ∀ m' σ' H', Go K m H m' H' → ER K m' H' e σ' → SR K m' H' h → D.bk σ' H'
  | .ct e h => ∀ m' σ' H', Go K m H m' H' → ER K m' H' e σ' → SR K m' H' h → D.ct σ' H'
  | .exc x e h => ∀ m' σ' H' cls d, Go K m H m' H' → ER K m' H' e σ' → SR K m' H' h → XRel C K m' H' x cls d → W cls d σ' H'
  | .bad => False
def tS (C : Cc) (K : PySem.W.Frag) (W : WX) (f : SM) : TS := fun D σ H => ∃ m e h, ER K m H e σ ∧ SR K m H h ∧ PostS C K W m H D (f e h)
/-- slots outside ts stay -/
def Else (ts : List Nat) (σ σ' : St) : Prop := σ'.length = σ.length ∧ ∀ j, j ∉ ts → σ'[j]? = σ[j]?
def tGt (K : PySem.W.Frag) (ts : List Nat) (g : GM) : TG := fun v σ H Q => ∃ m e h x e' h', ER K m H e σ ∧ SR K m H h ∧ VR K m H x v ∧ g x e h = some (e', h') ∧
  ∀ m' σ' H', Go K m H m' H' → ER K m' H' e' σ' → SR K m' H' h' → Else ts σ σ' → Q σ' H'
def tGts (K : PySem.W.Frag) (ts : List Nat) (g : List IV → IEnv → IH → Option (IEnv × IH)) : TGs := fun vs σ H Q => ∃ m e h xs e' h', ER K m H e σ ∧ SR K m H h ∧ VRs K m H xs vs ∧ g xs e h = some (e', h') ∧
  ∀ m' σ' H', Go K m H m' H' → ER K m' H' e' σ' → SR K m' H' h' → Else ts σ σ' → Q σ' H'
theorem Else.refl {ts : List Nat} {σ : St} : Else ts σ σ := ⟨rfl, fun _ _ => rfl⟩
theorem Else.trans {ts us : List Nat} {σ σ1 σ2 : St} (a : Else ts σ σ1) (b : Else us σ1 σ2) : Else (ts ++ us) σ σ2 :=
  ⟨b.1.trans a.1, fun j hj => (b.2 j fun z => hj (List.mem_append_right _ z)).trans (a.2 j fun z => hj (List.mem_append_left _ z))⟩
theorem Else.set {i : Nat} {σ : St} {x : Option V} : Else [i] σ (σ.set i x) := ⟨by simp, fun j hj => List.getElem?_set_ne (fun z => hj (by simp [z]))⟩

section
variable {X : Cx} {C : Cc} {W : WX}
theorem PostS.mono {K : PySem.W.Frag} {m m' : List Addr} {H H' : Hp} {D : Ends} {r : RS} (g : Go K m H m' H') (p : PostS C K W m H D r) : PostS C K W m' H' D r := by
  cases r with
  | nx e h => exact fun m1 s1 H1 g1 => p m1 s1 H1 (g.trans g1)
  | rt e h => exact fun m1 s1 H1 g1 => p m1 s1 H1 (g.trans g1)
  | bk e h => exact fun m1 s1 H1 g1 => p m1 s1 H1 (g.trans g1)
  | ct e h => exact fun m1 s1 H1 g1 => p m1 s1 H1 (g.trans g1)
  | exc x e h => exact fun m1 s1 H1 c d g1 => p m1 s1 H1 c d (g.trans g1)
  | bad => exact p
/-- an expression within a statement -/
theorem ts_run {α β : Type} {rel : Rel α β} {K : PySem.W.Frag} {m : List Addr} {H : Hp} {D : Ends} {e : IEnv} {σ : St} {r : R α} {k : α → IH → RS} {T : β → Hp → Prop} (er : ER K m H e σ) (p : PostS C K W m H D (RS.of e r k))
    (hT : ∀ m' H' a h' u, Go K m H m' H' → SR K m' H' h' → ER K m' H' e σ → rel m H m' H' a u → PostS C K W m' H' D (k a h') → T u H') : Post C K W σ m H rel T r := by
  cases r with
  | ok a h' => exact fun m1 H1 u g s q => hT m1 H1 a h' u g s (er.mono g) q (p.mono g)
  | exc x h' => exact fun m1 H1 c d g s q => p m1 σ H1 c d g (er.mono g) s q
  | bad => exact p

theorem ms_nil : PSs X [] (tS C X.K W sNil) := pss_weak pss_nil fun D σ H ⟨m, e, h, er, sr, p⟩ => p m σ H Go.refl er sr
theorem ms_cons {st : Stmt} {rest : List Stmt} {f g : SM} (h1 : PS X st (tS C X.K W f)) (h2 : PSs X rest (tS C X.K W g)) : PSs X (st :: rest) (tS C X.K W (sSeq f g)) :=
  pss_weak (pss_cons h1 h2) fun D σ H ⟨m, e, h, er, sr, p⟩ => ⟨m, e, h, er, sr, by
    unfold sSeq at p
    cases hf : f e h with
    | nx e1 h1' =>
      rw [hf] at p
      exact fun m1 σ1 H1 g1 er1 sr1 => ⟨m1, e1, h1', er1, sr1, p.mono g1⟩
    | rt v h1' => rw [hf] at p; exact p
    | bk v h1' => rw [hf] at p; exact p
    | ct v h1' => rw [hf] at p; exact p
    | exc x v h1' => rw [hf] at p; exact p
    | bad => rw [hf] at p; exact p⟩
theorem ms_one {st : Stmt} {f : SM} (h1 : PS X st (tS C X.K W f)) : PSs X [st] (tS C X.K W f) := pss_one h1
theorem ms_pass {pos : Pos} : PS X (.Pass pos) (tS C X.K W sNil) := ps_weak ps_pass fun D σ H ⟨m, e, h, er, sr, p⟩ => p m σ H Go.refl er sr
theorem ms_doc {x : Str} {j : Nat} {pos pos' : Pos} : PS X (.Expr (.Constant (.str x) j pos) pos') (tS C X.K W sNil) := ps_weak ps_doc fun D σ H ⟨m, e, h, er, sr, p⟩ => p m σ H Go.refl er sr
theorem ms_brk {pos : Pos} : PS X (.Break pos) (tS C X.K W sBrk) := ps_weak ps_break fun D σ H ⟨m, e, h, er, sr, p⟩ => p m σ H Go.refl er sr
theorem ms_cont {pos : Pos} : PS X (.Continue pos) (tS C X.K W sCont) := ps_weak ps_continue fun D σ H ⟨m, e, h, er, sr, p⟩ => p m σ H Go.refl er sr
theorem ms_bad {st : Stmt} : PS X st (tS C X.K W sBad) := ps_weak ps_never fun D σ H ⟨m, e, h, er, sr, p⟩ => p
theorem ms_expr {ex : Expr} {f : EM} {pos : Pos} (he : PE X ex (tE C X.K W f)) (hs : swapsWith ex none pos.line X.env = pure false) : PS X (.Expr ex pos) (tS C X.K W (sExpr f)) :=
  ps_weak (ps_expr he hs) fun D σ H ⟨m, e, h, er, sr, p⟩ => ⟨m, e, h, er, sr, ts_run er p fun m1 H1 a h1 u g1 s1 er1 r1 p1 => p1 m1 σ H1 Go.refl er1 s1⟩
theorem ms_ret {ex : Expr} {f : EM} {pos : Pos} (he : PE X ex (tE C X.K W f)) : PS X (.Return (some ex) pos) (tS C X.K W (sRet f)) :=
  ps_weak (ps_ret he) fun D σ H ⟨m, e, h, er, sr, p⟩ => ⟨m, e, h, er, sr, ts_run er p fun m1 H1 a h1 u g1 s1 er1 r1 p1 => p1 m1 u H1 Go.refl r1 s1⟩
theorem ms_retN {pos : Pos} : PS X (.Return none pos) (tS C X.K W sRetN) := ps_weak ps_retN fun D σ H ⟨m, e, h, er, sr, p⟩ => p m .non H Go.refl (by simp only [VR]) sr
theorem ms_if {c : Expr} {a b : List Stmt} {t : IEnv → IH → R Bool} {f g : SM} {pos : Pos} (hc : PT X c (tT C X.K W t)) (ha : PSs X a (tS C X.K W f)) (hb : PSs X b (tS C X.K W g)) : PS X (.If c a b pos) (tS C X.K W (sIf t f g)) :=
  ps_weak (ps_if hc ha hb) fun D σ H ⟨m, e, h, er, sr, p⟩ => ⟨m, e, h, er, sr, ts_run er p fun m1 H1 x h1 u g1 s1 er1 r1 p1 => by
    subst r1
    cases x with
    | true => exact iteT ⟨m1, e, h1, er1, s1, p1⟩
    | false => exact iteF ⟨m1, e, h1, er1, s1, p1⟩⟩

/-! ### targets -/
theorem mg_name {i : Nat} {x : Str} {pos : Pos} (hN : X.N.Nodup) (hi : X.N[i]? = some x) (hx : Loc X.env.scope x) (hf : X.fn x = true ∨ X.env.scope.names.lookup x = some .local) : PG X (.Name x pos) (tGt X.K [i] (gNm i)) :=
  ⟨fun pins s σ H v u Q I r ⟨m, e, h, y, e', h', er, sr, vr, q, t⟩ => (pg_name hN hi hx hf).run pins s σ H v u Q I r (by
    cases q
    exact t m _ H Go.refl (er.set vr) sr Else.set)⟩
theorem mgs_nil : PGs X [] (tGts X.K [] gNil') :=
  ⟨fun pins s σ H vs us Q I r ⟨m, e, h, xs, e', h', er, sr, vr, q, t⟩ => pgs_nil.run pins s σ H vs us Q I r (by
    cases xs with
    | nil =>
      cases q
      simp only [VRs] at vr
      exact ⟨vr, t m σ H Go.refl er sr Else.refl⟩
    | cons _ _ => cases q)⟩
theorem mgs_cons {ex : Expr} {es : List Expr} {ts us : List Nat} {g : GM} {k : List IV → IEnv → IH → Option (IEnv × IH)} (h1 : PG X ex (tGt X.K ts g)) (h2 : PGs X es (tGts X.K us k))
    (hs : (assignEach (ex :: es) X.env).map (·.2) = assign ex X.env :: (assignEach es X.env).map (·.2)) : PGs X (ex :: es) (tGts X.K (ts ++ us) (gCons' g k)) :=
  ⟨fun pins s σ H vs us' Q I r ⟨m, e, h, xs, e', h', er, sr, vr, q, t⟩ => (pgs_cons h1 h2 hs).run pins s σ H vs us' Q I r (by
    cases xs with
    | nil => cases q
    | cons x xs =>
      simp only [VRs] at vr
      obtain ⟨v, rest, rfl, r1, r2⟩ := vr
      unfold gCons' at q
      dsimp only at q
      cases hg : g x e h with
      | none => rw [hg] at q; cases q
      | some p =>
        obtain ⟨e1, hh1⟩ := p
        rw [hg] at q
        exact ⟨v, rest, rfl, m, e, h, x, e1, hh1, er, sr, r1, hg, fun m1 σ1 H1 g1 er1 sr1 el1 => ⟨m1, e1, hh1, xs, e', h', er1, sr1, VRs.mono g1 _ _ r2, q, fun m2 σ2 H2 g2 er2 sr2 el2 => t m2 σ2 H2 (g1.trans g2) er2 sr2 (el1.trans el2)⟩⟩)⟩
theorem mg_tup {es : List Expr} {k n : Nat} {ts : List Nat} {g : List IV → IEnv → IH → Option (IEnv × IH)} {pos : Pos} (hc : X.calm = true) (h : PGs X es (tGts X.K ts g)) (hn : (assignEach es X.env).length = n) (hst : (assignEach es X.env).findIdx? (·.1) = none) :
    PG X (.Tuple es k pos) (tGt X.K ts (gTp n g)) :=
  ⟨fun pins s σ H v u Q I r ⟨m, e, hh, x, e', h', er, sr, vr, q, t⟩ => (pg_tup hc h hn hst).run pins s σ H v u Q I r (by
    cases x <;> first | cases q | skip
    rename_i xs
    unfold gTp at q
    simp only [VR] at vr
    obtain ⟨a, vs, rfl, tt, rr⟩ := vr
    dsimp only at q
    split at q
    · rename_i hl
      exact ⟨a, vs, rfl, tt.sq, by rw [← rr.length]; exact hl, m, e, hh, xs, e', h', er, sr, rr, q, t⟩
    · cases q)⟩
theorem mg_sub {o i : Expr} {fo fi : EM} {pos : Pos} (ho : PE X o (tE C X.K W fo)) (hi : PE X i (tE C X.K W fi))
    (ha : ∀ v, assign (.Subscript o i pos) X.env v = (do
      let ov ← holding [v] (eval o X.env)
      let iv ← holding [v, ov] (eval i X.env)
      standAt pos
      holding [v, ov, iv] (setItem ov iv v)
      release [v, ov, iv] [])) : PG X (.Subscript o i pos) (tGt X.K [] (gSb fo fi)) :=
  ⟨fun pins s σ H v u Q I r ⟨m, e, hh, x, e', h', er, sr, vr, q, t⟩ => (pg_sub ho hi set_list ha).run pins s σ H v u Q I r (by
    unfold gSb at q
    refine ⟨m, e, hh, er, sr, ?_⟩
    split at q
    · rename_i k h1 e1
      rw [e1]
      split at q
      · rename_i j h2 e2
        split at q
        · rename_i xs hk
          split at q
          · rename_i n hn
            cases q
            intro m1 H1 ou g1 s1 r1
            refine ⟨m1, e, h1, er.mono g1, s1, ?_⟩
            rw [e2]
            intro m2 H2 iu g2 s2 r2
            have r2 : VR X.K m2 H2 (.int j) iu := r2
            simp only [VR] at r2
            subst r2
            obtain ⟨a, vs, rfl, e3, q3, rr⟩ := lst_at s2 (VR.mono g2 _ _ r1) hk
            rw [rr.length] at hn
            refine ⟨a, vs, j, n, rfl, rfl, q3, hn, ?_⟩
            have g3 : Go X.K m2 H2 m2 (upd H2 a (.lst (vs.set n v))) := Go.write e3 q3
            have rv : VR X.K m2 H2 x v := VR.mono (g1.trans g2) _ _ vr
            exact t m2 σ _ ((g1.trans g2).trans g3) (er.mono ((g1.trans g2).trans g3)) (s2.write e3 q3 (VRs.set n rr rv)) Else.refl
          · cases q
        · cases q
      · cases q
    · cases q)⟩
theorem ms_asg {tg ex : Expr} {f : EM} {ts : List Nat} {g : GM} {pos : Pos} (he : PE X ex (tE C X.K W f)) (hg : PG X tg (tGt X.K ts g)) (hs : swapsWithSole [tg] ex pos.line X.env = pure false) (hw : swappedStores [tg] ex X.env = pure none)
    (h1 : (assignEach [tg] X.env).map (·.2) = [assign tg X.env]) : PS X (.Assign [tg] ex pos) (tS C X.K W (sAsg f g)) :=
  ps_weak (ps_asg he hg hs hw h1) fun D σ H ⟨m, e, h, er, sr, p⟩ => ⟨m, e, h, er, sr, ts_run er p fun m1 H1 x h1 u g1 s1 er1 r1 p1 => by
    cases q : g x e h1 with
    | none => rw [q] at p1; exact p1.elim
    | some pr =>
      obtain ⟨e2, h2⟩ := pr
      rw [q] at p1
      exact ⟨m1, e, h1, x, e2, h2, er1, s1, r1, q, fun m2 σ2 H2 g2 er2 sr2 _ => p1 m2 σ2 H2 g2 er2 sr2⟩⟩

/-! ### a, b = x, y -/
theorem ms_par {i j : Nat} {x y : Str} {a b : Expr} {f : IEnv → IH → R (List IV)} {px py pt pos : Pos} {kt k2 pt2} (hc : X.calm = true) (hN : X.N.Nodup) (hi : X.N[i]? = some x) (hj : X.N[j]? = some y) (hij : i ≠ j)
    (hx : X.env.scope.names.lookup x = some .local) (hy : X.env.scope.names.lookup y = some .local) (ha : PA X [a, b] (tA C X.K W f))
    (hw : swappedStores [.Tuple [.Name x px, .Name y py] kt pt] (.Tuple [a, b] k2 pt2) X.env = pure (some [x, y]))
    (hs : swapsWithSole [.Tuple [.Name x px, .Name y py] kt pt] (.Tuple [a, b] k2 pt2) pos.line X.env = pure false) :
    PS X (.Assign [.Tuple [.Name x px, .Name y py] kt pt] (.Tuple [a, b] k2 pt2) pos) (tS C X.K W (sPar [i, j] f)) :=
  ps_weak (L2.ps_par hc hN hi hj hij hx hy ha hw hs) fun D σ H ⟨m, e, h, er, sr, p⟩ => ⟨m, e, h, er, sr, ts_run er p fun m1 H1 vs h1 us g1 s1 er1 r1 p1 => by
    split at p1
    · rename_i hl
      match vs, hl, r1, p1 with
      | [u, w], _, r1, p1 =>
        have r1 : VRs X.K m1 H1 [u, w] us := r1
        simp only [VRs] at r1
        obtain ⟨v1, q1, rfl, ru, v2, q2, rfl, rw', rfl⟩ := r1
        exact ⟨v1, v2, rfl, p1 m1 _ H1 Go.refl ((er1.set ru).set rw') s1⟩
    · exact p1.elim⟩

/-! ### name op= e -/
def IpM (X : Cx) (C : Cc) (op : Operator) (o : IV → IV → IH → R IV) : Prop :=
  ∃ r, PIp X op r ∧ ∀ (W : WX) (σ : St) m H h x y u v (Q : VK), SR X.K m H h → VR X.K m H x u → VR X.K m H y v → Post C X.K W σ m H (rV X.K) Q (o x y h) → r u v H Q
theorem ip_of {op : Operator} {o : IV → IV → IH → R IV} {r : R2} (h1 : OpR X (inplaceOp op) r) (h2 : ∀ (W : WX) (σ : St) m H h x y u v (Q : VK), SR X.K m H h → VR X.K m H x u → VR X.K m H y v → Post C X.K W σ m H (rV X.K) Q (o x y h) → r u v H Q) : IpM X C op o :=
  ⟨r, fun pins s σ H x y v u Q I rx ry h => h1 pins s σ H x y v u Q I rx ry h, h2⟩
def bAddI : IV → IV → IH → R IV
  | .int i, .int j, h => .ok (.int (i + j)) h
  | .str a, .str b, h => if a.length + b.length ≤ sizeLine then .ok (.str (a ++ b)) h else .bad
  | _, _, _ => .bad
theorem im_add : IpM X C .Add bAddI := ip_of (iop_add.or iop_add_str) fun W σ m H h x y u v Q s rx ry p => by
  unfold bAddI at p
  split at p
  · simp only [rV, VR] at rx ry
    subst rx; subst ry
    exact .inl ⟨_, _, rfl, rfl, post_int s p⟩
  · simp only [rV, VR] at rx ry
    subst rx; subst ry
    split at p
    · exact .inr ⟨_, _, rfl, rfl, by assumption, post_str s p⟩
    · exact p.elim
  · exact p.elim
theorem im_sub : IpM X C .Sub bSub := ip_of iop_sub fun W σ m H h x y u v Q s rx ry p => by
  unfold bSub at p
  split at p
  · simp only [rV, VR] at rx ry
    subst rx; subst ry
    exact ⟨_, _, rfl, rfl, post_int s p⟩
  · exact p.elim
def bMulI : IV → IV → IH → R IV
  | .int i, .int j, h => if ((-(2 ^ 64) < i ∧ i < 2 ^ 64) ∨ (-(2 ^ 64) < j ∧ j < 2 ^ 64)) then .ok (.int (i * j)) h else .bad
  | _, _, _ => .bad
theorem im_mul : IpM X C .Mult bMulI := ip_of iop_mul fun W σ m H h x y u v Q s rx ry p => by
  unfold bMulI at p
  split at p
  · simp only [rV, VR] at rx ry
    subst rx; subst ry
    split at p
    · exact ⟨_, _, rfl, rfl, by assumption, post_int s p⟩
    · exact p.elim
  · exact p.elim
theorem im_mod : IpM X C .Mod bMod := ip_of iop_mod fun W σ m H h x y u v Q s rx ry p => by
  unfold bMod at p
  split at p
  · simp only [rV, VR] at rx ry
    subst rx; subst ry
    split at p
    · exact ⟨_, _, rfl, rfl, by assumption, post_int s p⟩
    · exact p.elim
  · exact p.elim
theorem im_div : IpM X C .FloorDiv bDiv := ip_of iop_fdivW fun W σ m H h x y u v Q s rx ry p => by
  unfold bDiv at p
  split at p
  · simp only [rV, VR] at rx ry
    subst rx; subst ry
    split at p
    · exact ⟨_, _, rfl, rfl, by assumption, post_int s p⟩
    · exact p.elim
  · exact p.elim
theorem ms_aug {i : Nat} {x : Str} {ex : Expr} {f : EM} {op : Operator} {o : IV → IV → IH → R IV} {pos pos' : Pos} (hN : X.N.Nodup) (hi : X.N[i]? = some x) (hx : Loc X.env.scope x) (he : PE X ex (tE C X.K W f)) (ho : IpM X C op o)
    (hf : X.fn x = true ∨ X.env.scope.names.lookup x = some .local) : PS X (.AugAssign (.Name x pos') op ex pos) (tS C X.K W (sAug i o f)) := by
  obtain ⟨r, h1, h2⟩ := ho
  refine ps_weak (L2.ps_aug hN hi hx he h1 hf) fun D σ H ⟨m, e, h, er, sr, p⟩ => ?_
  unfold sAug at p
  cases q : e[i]? with
  | none => rw [q] at p; exact p.elim
  | some q' =>
    cases q' with
    | none => rw [q] at p; exact p.elim
    | some y =>
      rw [q] at p
      obtain ⟨u, hu, ru⟩ := er.at_ i y q
      refine ⟨u, hu, m, e, h, er, sr, ts_run er p fun m1 H1 z h1 v g1 s1 er1 r1 p1 => ?_⟩
      refine h2 W σ m1 H1 h1 y z u v _ s1 (VR.mono g1 _ _ ru) r1 (ts_run er1 p1 fun m2 H2 t h3 w g2 s2 er2 r2 p2 => ?_)
      exact p2 m2 _ H2 Go.refl (er2.set r2) s2

/-! ### for -/
theorem loop_go {K : PySem.W.Frag} {ts : List Nat} {g : GM} {b : SM} {G : IH → Bool} {m : List Addr} {H : Hp} {J : It} {xs : List IV} {D : Ends} {e : IEnv} {h : IH} {σ : St} (ir : ItRel K m H J xs G) (er : ER K m H e σ) (sr : SR K m H h)
    (p : PostS C K W m H D (forM G g b xs e h)) :
    ∃ Wv : Nat → Nat → St → Hp → Prop, (∃ n, Wv 0 n σ H) ∧ ∀ i n σ H, Wv i n σ H → (J.stop i H ∧ D.nx σ H) ∨ (J.go i H ∧ ∃ N : St → Hp → Prop, (∀ σ' H', N σ' H' → ∃ n', n' < n ∧ Wv (i + 1) n' σ' H') ∧
      ∀ x H', J.yld i H x H' → tGt K ts g x σ H' fun σ2 H2 => tS C K W b { D with nx := N, ct := N, bk := D.nx } σ2 H2) := by
  obtain ⟨Gd, Y, wk, hir⟩ := ir
  refine for_it wk (g := tGt K ts g) (tb := tS C K W b) (D := D) (σ := σ) (H := H) (fun i σ1 H1 => ∃ m1 e1 h1, Go K m H m1 H1 ∧ ER K m1 H1 e1 σ1 ∧ SR K m1 H1 h1 ∧ PostS C K W m1 H1 D (forM G g b (xs.drop i) e1 h1)) ?_ ?_ ?_ ?_
  · exact ⟨m, e, h, Go.refl, er, sr, by simpa using p⟩
  · rintro i σ1 H1 hi ⟨m1, e1, h1, g1, er1, sr1, p1⟩
    have hG : G h1 = true := by
      cases hx : xs.drop i with
      | nil => rw [hx] at p1; unfold forM at p1; split at p1; assumption; exact p1.elim
      | cons x r => rw [hx] at p1; unfold forM at p1; split at p1; assumption; exact p1.elim
    exact (hir m1 H1 h1 g1 sr1 hG).1
  · rintro i x σ1 H1 H2 hi ⟨m1, e1, h1, g1, er1, sr1, p1⟩ hY
    have hx : xs.drop i = xs[i] :: xs.drop (i + 1) := List.drop_eq_getElem_cons hi
    rw [hx] at p1
    unfold forM at p1
    split at p1
    · rename_i hG
      obtain ⟨iv, h3, g2, sr2, vr2⟩ := (hir m1 H1 h1 g1 sr1 hG).2 i x H2 hi hY
      rw [List.getElem?_eq_getElem hi] at h3
      cases h3
      split at p1
      · rename_i e2 h2 hg
        refine ⟨m1, e1, h1, xs[i], e2, h2, er1.mono g2, sr2, vr2, hg, fun m3 σ3 H3 g3 er3 sr3 _ => ⟨m3, e2, h2, er3, sr3, ?_⟩⟩
        have p2 := p1.mono (g2.trans g3)
        have back : ∀ e4 h4, PostS C K W m3 H3 D (forM G g b (xs.drop (i + 1)) e4 h4) → ∀ m' σ' H', Go K m3 H3 m' H' → ER K m' H' e4 σ' → SR K m' H' h4 →
            ∃ m1 e1 h1, Go K m H m1 H' ∧ ER K m1 H' e1 σ' ∧ SR K m1 H' h1 ∧ PostS C K W m1 H' D (forM G g b (xs.drop (i + 1)) e1 h1) :=
          fun e4 h4 q m' σ' H' g4 er4 sr4 => ⟨m', e4, h4, ((g1.trans g2).trans g3).trans g4, er4, sr4, q.mono g4⟩
        cases hb : b e2 h2 with
        | nx e4 h4 => rw [hb] at p2; exact back e4 h4 p2
        | ct e4 h4 => rw [hb] at p2; exact back e4 h4 p2
        | bk e4 h4 => rw [hb] at p2; exact p2
        | rt v h4 => rw [hb] at p2; exact p2
        | exc x e4 h4 => rw [hb] at p2; exact p2
        | bad => rw [hb] at p2; exact p2
      · exact p1.elim
    · exact p1.elim
  · rintro σ1 H1 ⟨m1, e1, h1, g1, er1, sr1, p1⟩
    rw [List.drop_length] at p1
    unfold forM at p1
    split at p1
    · exact p1 m1 σ1 H1 Go.refl er1 sr1
    · exact p1.elim
theorem ms_for {iter tg : Expr} {body : List Stmt} {it : ItM} {ts : List Nat} {g : GM} {b : SM} {pos : Pos} (hp : PassesOwn (model X.prog X.w) X.A X.env X.xe) (hc : X.calm = true) (hi : PI X tg iter (tIt C X.K W it)) (hg : PG X tg (tGt X.K ts g)) (hb : PSs X body (tS C X.K W b))
    (mk : ∀ {wi : TI} {g : TG} {tb : TS}, PassesOwn (model X.prog X.w) X.A X.env X.xe → X.calm = true → PI X tg iter wi → PG X tg g → PSs X body tb → PS X (.For tg iter body [] pos) (tFor wi g tb)) :
    PS X (.For tg iter body [] pos) (tS C X.K W (sFor it g b)) :=
  ps_weak (mk hp hc hi hg hb) fun D σ H ⟨m, e, h, er, sr, p⟩ => ⟨m, e, h, er, sr, ts_run er p fun m1 H1 pr h1 J g1 s1 er1 r1 p1 => loop_go r1 er1 s1 p1⟩

/-! ### while -/
theorem ms_while {c : Expr} {body : List Stmt} {n : IEnv → IH → Nat} {t : IEnv → IH → R Bool} {b : SM} {pos : Pos} (hp : PassesOwn (model X.prog X.w) X.A X.env X.xe) (hc : PT X c (tT C X.K W t)) (hb : PSs X body (tS C X.K W b)) :
    PS X (.While c body [] pos) (tS C X.K W (sWhile n t b)) :=
  ps_weak (L2.ps_while hp hc hb) fun D σ H ⟨m, e, h, er, sr, p⟩ => by
    refine ⟨fun k σ1 H1 => ∃ m1 e1 h1, Go X.K m H m1 H1 ∧ ER X.K m1 H1 e1 σ1 ∧ SR X.K m1 H1 h1 ∧ PostS C X.K W m1 H1 D (whileM t b k e1 h1), ⟨n e h, m, e, h, Go.refl, er, sr, p⟩, ?_⟩
    rintro k σ1 H1 ⟨m1, e1, h1, g1, er1, sr1, p1⟩
    cases k with
    | zero => exact p1.elim
    | succ k =>
      unfold whileM at p1
      refine ⟨m1, e1, h1, er1, sr1, ts_run er1 p1 fun m2 H2 x h2 u g2 s2 er2 r2 p2 => ?_⟩
      subst r2
      cases x with
      | false => exact iteF (p2 m2 σ1 H2 Go.refl er2 s2)
      | true =>
        refine iteT ⟨fun σ3 H3 => ∃ m1 e1 h1, Go X.K m H m1 H3 ∧ ER X.K m1 H3 e1 σ3 ∧ SR X.K m1 H3 h1 ∧ PostS C X.K W m1 H3 D (whileM t b k e1 h1), fun σ' H' q => ⟨k, Nat.lt_succ_self k, q⟩, m2, e1, h2, er2, s2, ?_⟩
        simp only [if_true] at p2
        cases hb : b e1 h2 with
        | nx e4 h4 => rw [hb] at p2; exact fun m3 σ3 H3 g3 er3 sr3 => ⟨m3, e4, h4, (g1.trans g2).trans g3, er3, sr3, p2.mono g3⟩
        | ct e4 h4 => rw [hb] at p2; exact fun m3 σ3 H3 g3 er3 sr3 => ⟨m3, e4, h4, (g1.trans g2).trans g3, er3, sr3, p2.mono g3⟩
        | bk e4 h4 => rw [hb] at p2; exact p2
        | rt v h4 => rw [hb] at p2; exact p2
        | exc x e4 h4 => rw [hb] at p2; exact p2
        | bad => rw [hb] at p2; exact p2

/-! ### iterables -/
theorem walkAt {K : PySem.W.Frag} {m : List Addr} {H : Hp} {xs : List IV} {vs : List V} {J : It} {Gd : Hp → Prop} {G : IH → Bool} (w : Walk J vs.length Gd (YAt vs)) (r : VRs K m H xs vs)
    (hG : ∀ m1 H1 h1, Go K m H m1 H1 → SR K m1 H1 h1 → G h1 = true → Gd H1) : ItRel K m H J xs G := by
  refine ⟨Gd, YAt vs, by rw [r.length]; exact w, fun m1 H1 h1 g s q => ⟨hG m1 H1 h1 g s q, fun i x H2 hi ⟨e, hx⟩ => ?_⟩⟩
  subst e
  obtain ⟨v, h1', h2'⟩ := r.get (List.getElem?_eq_getElem hi)
  rw [hx] at h1'; cases h1'
  exact ⟨_, List.getElem?_eq_getElem hi, Go.refl, s, VR.mono g _ _ h2'⟩
theorem mi_tup {tg ex : Expr} {f : EM} (he : PE X ex (tE C X.K W f)) : PI X tg ex (tIt C X.K W (iTup f)) :=
  ⟨fun pins s σ H R I ⟨m, e, h, er, sr, p⟩ => (pi_tup (tg := tg) he).run pins s σ H R I ⟨m, e, h, er, sr, tg_run p fun m1 H1 x h1 u g1 s1 r1 p1 => by
    cases x <;> first | exact p1.elim | skip
    rename_i xs
    simp only [rV, VR] at r1
    obtain ⟨a, vs, rfl, t, rr⟩ := r1
    exact ⟨a, rfl, ⟨vs, t.sq⟩, p1 m1 H1 _ Go.refl s1 (walkAt walk_tup rr fun m2 H2 h2 g s q => (g.tup _ _ t).sq)⟩⟩⟩
theorem mi_fresh {tg ex : Expr} {f : IEnv → IH → R (List IV)} (he : PE X ex (tL C X.K W f)) : PI X tg ex (tIt C X.K W (iFresh f)) :=
  ⟨fun pins s σ H R I ⟨m, e, h, er, sr, p⟩ => (pi_list (tg := tg) he).run pins s σ H R I ⟨m, e, h, er, sr, tg_run p fun m1 H1 xs h1 u g1 s1 r1 p1 => by
    obtain ⟨a, vs, rfl, n, _, q, rr⟩ := r1
    exact ⟨a, rfl, ⟨vs, .of q⟩, p1 m1 H1 _ Go.refl s1 (walkAt walk_list rr fun m2 H2 h2 g s _ => .of (g.fr _ _ q n))⟩⟩⟩
theorem mi_lstV {tg ex : Expr} {f : EM} (he : PE X ex (tE C X.K W f)) : PI X tg ex (tIt C X.K W (iLstV f)) :=
  ⟨fun pins s σ H R I ⟨m, e, h, er, sr, p⟩ => (pi_list (tg := tg) he).run pins s σ H R I ⟨m, e, h, er, sr, tg_run p fun m1 H1 x h1 u g1 s1 r1 p1 => by
    cases x <;> first | exact p1.elim | skip
    · rename_i ns
      simp only [rV, VR] at r1
      obtain ⟨a, rfl, q⟩ := r1
      exact ⟨a, rfl, ⟨_, q.list⟩, p1 m1 H1 _ Go.refl s1 (walkAt walk_list (VRs.of_ints ns) fun m2 H2 h2 g s _ => (g.scr q).list)⟩
    · rename_i k
      dsimp only at p1
      split at p1
      · rename_i xs hk
        obtain ⟨a, vs, rfl, e1, q, rr⟩ := lst_at s1 r1 hk
        refine ⟨a, rfl, ⟨vs, .of q⟩, p1 m1 H1 _ Go.refl s1 ?_⟩
        -- while the list stands, so does the heap's
        refine ⟨fun H2 => SqL X.K H2 a vs ∨ ∃ ws, SqL X.K H2 a ws ∧ ws.length = vs.length, fun i H x H' => H' = H ∧ ∀ ws, SqL X.K H a ws → ws[i]? = some x, ?_, fun m2 H2 h2 g s2 hs => ?_⟩
        · rw [rr.length]
          refine ⟨fun i H hi h => ?_, fun H h => ?_, fun i H x H' hi h y => y⟩
          · rcases h with h | ⟨ws, h, e⟩
            · exact ⟨vs, vs[i], h, List.getElem?_eq_getElem hi⟩
            · exact ⟨ws, ws[i]'(by rw [e]; exact hi), h, List.getElem?_eq_getElem _⟩
          · rcases h with h | ⟨ws, h, e⟩
            · exact ⟨vs, h, Nat.le_refl _⟩
            · exact ⟨ws, h, by rw [e]; exact Nat.le_refl _⟩
        · unfold stands at hs
          dsimp only at hs
          split at hs
          · rename_i ys hy
            have e2 := eqIVs_eq _ _ hs
            subst e2
            obtain ⟨a2, ws, e3, q3, r3⟩ := s2.get hy
            rw [g.pre _ _ e1] at e3; cases e3
            refine ⟨.inr ⟨ws, .of q3, by rw [← r3.length, rr.length]⟩, fun i x H3 _ ⟨e4, hx⟩ => ?_⟩
            subst e4
            have hw := hx ws (.of q3)
            have hi : i < ys.length := by rw [r3.length]; exact (List.getElem?_eq_some_iff.mp hw).1
            obtain ⟨v, h5, h6⟩ := r3.get (List.getElem?_eq_getElem hi)
            rw [hw] at h5; cases h5
            exact ⟨_, List.getElem?_eq_getElem hi, Go.refl, s2, h6⟩
          · cases hs
      · exact p1.elim⟩⟩
theorem range_rel {K : PySem.W.Frag} {m : List Addr} {H : Hp} {lo hi : Int} : ItRel K m H (Itr lo (hi - lo).toNat) (lRange lo hi) (fun _ => true) := by
  have hl : (lRange lo hi).length = (hi - lo).toNat := by unfold lRange; rw [List.length_map, List.length_range]
  refine ⟨fun _ => True, YFn fun i => .int (lo + i), by rw [hl]; exact walk_range, fun m1 H1 h1 g s _ => ⟨trivial, fun i x H2 hi ⟨e, hx⟩ => ?_⟩⟩
  subst e
  refine ⟨.int (lo + (i : Nat)), ?_, Go.refl, s, by simp only [VR]; exact hx⟩
  unfold lRange at hi ⊢
  rw [List.length_map, List.length_range] at hi
  rw [List.getElem?_map, List.getElem?_range hi]
  rfl
theorem mi_rg1 {tg a : Expr} {f : EM} {p pos : Pos} (hg : Gl X "range") (hm : X.mg "range" = none) (ha : PE X a (tE C X.K W f)) (hs : starEach [a] X.env = [(false, eval a X.env)]) (hs' : starEach (a :: []) X.env = (false, eval a X.env) :: starEach [] X.env) :
    PI X tg (.Call (.Name "range" p) [a] [] pos) (tIt C X.K W (iRg1 f)) :=
  ⟨fun pins s σ H R I ⟨m, e, h, er, sr, pp⟩ => (pi_range1 (tg := tg) hg hm (pa_cons ha pa_nil hs') hs).run pins s σ H R I ⟨m, e, h, er, sr, tg_run pp fun m1 H1 x h1 u g1 s1 r1 p1 => by
    cases x <;> first | exact p1.elim | skip
    rename_i i
    simp only [rV, VR] at r1
    subst r1
    dsimp only at p1
    split at p1
    · rename_i hk
      unfold rgOk at hk
      have hk' := of_decide_eq_true hk
      refine ⟨i, rfl, hk'.2.2.1, hk'.2.2.2.1, p1 m1 H1 _ Go.refl s1 ?_⟩
      have q := range_rel (K := X.K) (m := m1) (H := H1) (lo := 0) (hi := i)
      rw [Int.sub_zero] at q
      exact q
    · exact p1.elim⟩⟩
theorem mi_rg2 {tg a b : Expr} {f f2 : EM} {p pos : Pos} (hg : Gl X "range") (hm : X.mg "range" = none) (ha : PE X a (tE C X.K W f)) (hb : PE X b (tE C X.K W f2)) (hs : starEach [a, b] X.env = [(false, eval a X.env), (false, eval b X.env)]) (hs2 : starEach [b] X.env = [(false, eval b X.env)])
    (hs' : starEach (a :: [b]) X.env = (false, eval a X.env) :: starEach [b] X.env) (hs2' : starEach (b :: []) X.env = (false, eval b X.env) :: starEach [] X.env) :
    PI X tg (.Call (.Name "range" p) [a, b] [] pos) (tIt C X.K W (iRg2 f f2)) :=
  ⟨fun pins s σ H R I ⟨m, e, h, er, sr, pp⟩ => (pi_range2 (tg := tg) hg hm (pa_cons ha (pa_cons hb pa_nil hs2') hs') hs hs2).run pins s σ H R I ⟨m, e, h, er, sr, tg_run pp fun m1 H1 x h1 u g1 s1 r1 p1 => ⟨m1, e, h1, er.mono g1, s1, tg_run p1 fun m2 H2 y h2 v g2 s2 r2 p2 => by
    cases x <;> first | exact p2.elim | skip
    cases y <;> first | exact p2.elim | skip
    rename_i i j
    simp only [rV, VR] at r1 r2
    subst r1; subst r2
    dsimp only at p2
    split at p2
    · rename_i hk
      unfold rgOk at hk
      have hk' := of_decide_eq_true hk
      exact ⟨i, j, rfl, ⟨hk'.1, hk'.2.1, hk'.2.2.1, hk'.2.2.2.1⟩, p2 m2 H2 _ Go.refl s2 range_rel⟩
    · exact p2.elim⟩⟩⟩

/-! ### comprehensions -/
theorem ER.wipe {K : PySem.W.Frag} {m : List Addr} {H : Hp} {e : IEnv} {σ : St} (er : ER K m H e σ) : ∀ vs : List Nat, ER K m H (wipeE e vs) (L2.wipe σ vs)
  | [] => er
  | v :: vs => by
    have q := ER.wipe er vs
    refine ⟨by simp only [wipeE, L2.wipe, List.length_set]; exact q.len, fun i x h => ?_⟩
    simp only [wipeE, L2.wipe] at h ⊢
    by_cases hj : v = i
    · subst hj
      rw [List.getElem?_set] at h
      simp at h
    · rw [List.getElem?_set_ne hj] at h ⊢
      exact q.at_ i x h
theorem wipe_in {σ : St} : ∀ {vs : List Nat} {i : Nat}, i ∈ vs → i < σ.length → (L2.wipe σ vs)[i]? = some none
  | v :: vs, i, hi, hl => by
    unfold L2.wipe
    by_cases hv : v = i
    · subst hv
      rw [List.getElem?_set_self (by rw [wipe_length]; exact hl)]
    · rw [List.getElem?_set_ne hv]
      rcases List.mem_cons.mp hi with e | e
      · exact absurd e.symm hv
      · exact wipe_in e hl
theorem wipe_out' {σ : St} : ∀ {vs : List Nat} {i : Nat}, i ∉ vs → (L2.wipe σ vs)[i]? = σ[i]?
  | [], _, _ => rfl
  | v :: vs, i, hi => by
    unfold L2.wipe
    rw [List.getElem?_set_ne (fun z => hi (by simp [z]))]
    exact wipe_out' fun z => hi (List.mem_cons_of_mem _ z)
/-- a store to the block's own names is forgotten by wiping -/
theorem wipe_else {σ σ2 : St} {ts vs : List Nat} (el : Else ts (L2.wipe σ vs) σ2) (sub : ∀ t ∈ ts, t ∈ vs) : L2.wipe σ2 vs = L2.wipe σ vs := by
  refine List.ext_getElem? fun i => ?_
  have hl : σ2.length = σ.length := by rw [el.1, wipe_length]
  by_cases hi : i ∈ vs
  · by_cases hlt : i < σ.length
    · rw [wipe_in hi (by rw [hl]; exact hlt), wipe_in hi hlt]
    · rw [List.getElem?_eq_none (by rw [wipe_length, hl]; omega), List.getElem?_eq_none (by rw [wipe_length]; omega)]
  · rw [wipe_out' hi, el.2 i fun z => hi (sub i z)]
theorem m_lc {elt tg iter : Expr} {ifs : List Expr} {scope : Scope} {own : List (Str × Nat)} {it : ItM} {ts : List Nat} {g : GM} {c : IEnv → IH → R Bool} {f : EM} (hc : X.calm = true) (hN : X.N.Nodup) (hi : PI X tg iter (tIt C X.K W it)) (ok : BlkOk X.N X.env.scope scope own) (sub : ∀ t ∈ ts, t ∈ own.map (·.2))
    (hg : ∀ (s : Shared) (H : Hp) (D : Addr) (cl : List (Str × Addr)) (fp : List Addr), PG (X.blk s H scope (compEnvC scope cl D X.env) fp) tg (tGt X.K ts g)) (ht : ∀ (s : Shared) (H : Hp) (D : Addr) (cl : List (Str × Addr)) (fp : List Addr), PTs (X.blk s H scope (compEnvC scope cl D X.env) fp) ifs (tT C X.K (fun _ _ _ _ => False) c))
    (he : ∀ (s : Shared) (H : Hp) (D : Addr) (cl : List (Str × Addr)) (fp : List Addr), PE (X.blk s H scope (compEnvC scope cl D X.env) fp) elt (tE C X.K (fun _ _ _ _ => False) f)) :
    ∀ σ H Q, tL C X.K W (lLc (own.map (·.2)) it g c f) σ H Q → tLc (tIt C X.K W it) (tGt X.K ts g) (tT C X.K (fun _ _ _ _ => False) c) (tE C X.K (fun _ _ _ _ => False) f) (own.map (·.2)) σ H Q := by
  rintro σ H Q ⟨m, e, h, er, sr, p⟩
  refine ⟨m, e, h, er, sr, tg_run p fun m1 H1 pr h1 J g1 s1 r1 p1 => ?_⟩
  obtain ⟨xs, G⟩ := pr
  dsimp only at p1
  split at p1
  rotate_left
  · exact p1.elim
  rename_i hz
  intro D hD
  obtain ⟨Gd, Y, wk, hir⟩ := r1
  dsimp only at wk hir
  have gD : Go X.K m1 H1 m1 (upd H1 D (.lst [])) := Go.laid hD
  have nD : D ∉ m1 := s1.fresh hD
  generalize hL : lcM G g c f (wipeE e (own.map (·.2))) xs h1 = L at p1
  have eq0 : L = (lcM G g c f (wipeE e (own.map (·.2))) (xs.drop 0) h1).bind fun ys h3 => .ok ([] ++ ys) h3 := by
    rw [List.drop_zero, ← hL]
    cases lcM G g c f (wipeE e (own.map (·.2))) xs h1 <;> rfl
  have gd : ∀ {ys : List IV} {h2 : IH} {acc : List IV}, L = (lcM G g c f (wipeE e (own.map (·.2))) ys h2).bind (fun ys h3 => .ok (acc ++ ys) h3) → G h2 = true := by
    intro ys h2 acc eq
    cases hG : G h2 with
    | true => rfl
    | false =>
      have z : lcM G g c f (wipeE e (own.map (·.2))) ys h2 = .bad := by
        cases ys <;> (unfold lcM; rw [hG]; rfl)
      rw [z] at eq
      rw [eq] at p1
      exact p1.elim
  refine lc_it wk (fun i H2 => ∃ m2 h2 acc accV, Go X.K m1 H1 m2 H2 ∧ SR X.K m2 H2 h2 ∧ D ∉ m2 ∧ H2 D = some (.lst accV) ∧ VRs X.K m2 H2 acc accV ∧ acc.length ≤ i ∧
    L = (lcM G g c f (wipeE e (own.map (·.2))) (xs.drop i) h2).bind fun ys h3 => .ok (acc ++ ys) h3) ?_ ?_ ?_ ?_
  · exact ⟨m1, h1, [], [], gD, s1.laid hD, nD, upd_same, by simp only [VRs], Nat.zero_le _, eq0⟩
  · rintro i H2 _ ⟨m2, h2, acc, accV, g2, s2, n2, d2, r2, l2, eq⟩
    exact (hir m2 H2 h2 g2 s2 (gd eq)).1
  · rintro i x H2 H3 hi ⟨m2, h2, acc, accV, g2, s2, n2, d2, r2, l2, eq⟩ hY
    have hG := gd eq
    obtain ⟨iv, h3, g3, s3, r3⟩ := (hir m2 H2 h2 g2 s2 hG).2 i x H3 hi hY
    rw [List.getElem?_eq_getElem hi] at h3
    cases h3
    have hx : xs.drop i = xs[i] :: xs.drop (i + 1) := List.drop_eq_getElem_cons hi
    rw [hx] at eq
    have bad : ∀ {q : R (List IV)}, lcM G g c f (wipeE e (own.map (·.2))) (xs[i] :: xs.drop (i + 1)) h2 = q → q.bind (fun ys h3 => R.ok (acc ++ ys) h3) = .bad → False := fun {q} e1 e2 => by
      rw [e1, e2] at eq
      rw [eq] at p1
      exact p1
    unfold lcM at eq bad
    rw [if_pos hG] at eq bad
    cases hgx : g xs[i] (wipeE e (own.map (·.2))) h2 with
    | none =>
      rw [hgx] at bad
      exact (bad rfl rfl).elim
    | some pr =>
      obtain ⟨e1, h1'⟩ := pr
      rw [hgx] at eq bad
      dsimp only at eq bad
      refine ⟨m2, wipeE e (own.map (·.2)), h2, xs[i], e1, h1', ((er.mono g1).wipe _).mono (g2.trans g3), s3, r3, hgx, fun m4 σ4 H4 g4 er4 s4 el4 => ⟨wipe_else el4 sub, m4, e1, h1', er4, s4, ?_⟩⟩
      cases hcx : c e1 h1' with
      | bad => rw [hcx] at bad; exact (bad rfl rfl).elim
      | exc z hz' => rw [hcx] at bad; exact (bad rfl rfl).elim
      | ok t hc' =>
        rw [hcx] at eq bad
        intro m5 H5 t' g5 s5 rt
        obtain rfl : t = t' := rt
        cases t with
        | false =>
          refine iteF ?_
          have gA : Go X.K m2 H2 m5 H5 := (g3.trans g4).trans g5
          refine ⟨m5, hc', acc, accV, g2.trans gA, s5, gA.out d2 n2, gA.fr _ _ d2 n2, VRs.mono gA _ _ r2, Nat.le_succ_of_le l2, ?_⟩
          rw [eq]
          rfl
        | true =>
          refine iteT ⟨m5, e1, hc', er4.mono g5, s5, ?_⟩
          cases hfx : f e1 hc' with
          | bad => simp only [R.nox, R.bind, if_true] at bad; rw [hfx] at bad; exact (bad rfl rfl).elim
          | exc z hz' => simp only [R.nox, R.bind, if_true] at bad; rw [hfx] at bad; exact (bad rfl rfl).elim
          | ok y hf =>
            intro m6 H6 yv g6 s6 r6
            have gA : Go X.K m2 H2 m6 H6 := ((g3.trans g4).trans g5).trans g6
            have n6 := gA.out d2 n2
            have d6 := gA.fr _ _ d2 n2
            have ra := VRs.mono gA _ _ r2
            have kt : ∀ b ws, SqN X.K H6 b ws → SqN X.K (upd H6 D (.lst (accV ++ [yv]))) b ws := fun b ws t => by
              rcases t with ⟨o', q, d⟩ | q
              · exact .inl ⟨o', by rw [upd_ne (ne_of q d6 (by intro z; cases z))]; exact q, d⟩
              · exact .inr q
            have kz : ∀ b o' u, H6 b = some (.frz o' u) → upd H6 D (.lst (accV ++ [yv])) b = some (.frz o' u) := fun b o' u q => by
              rw [upd_ne (ne_of q d6 (by intro z; cases z))]; exact q
            have kf : ∀ b ws, SqF X.K H6 b ws → SqF X.K (upd H6 D (.lst (accV ++ [yv]))) b ws := fun b ws t => by
              rcases t with ⟨o', q⟩ | q
              · exact .inl ⟨o', kz _ _ _ q⟩
              · exact .inr q
            refine ⟨accV, d6, ?_, m6, hf, acc ++ [y], accV ++ [yv], ?_, ?_, n6, upd_same, ?_, ?_, ?_⟩
            · rw [← ra.length]; omega
            · have gB := g2.trans gA
              refine ⟨gB.pre, gB.new, fun b o q hb => ?_, fun b ws t => kt _ _ (gB.tup _ _ t), fun b o' u q => kz _ _ _ (gB.frz _ _ _ q)⟩
              rw [upd_ne (ne_of_none q hD)]
              exact gB.fr b o q hb
            · refine ⟨s6.len, s6.nd, fun k o q => ?_⟩
              obtain ⟨a, ea, oa⟩ := s6.obj k o q
              refine ⟨a, ea, ?_⟩
              cases o with
              | lst zs =>
                obtain ⟨ws, q1, q2⟩ := oa
                have na : a ≠ D := fun z => n6 (z ▸ List.mem_of_getElem? ea)
                exact ⟨ws, by rw [upd_ne na]; exact q1, VRs.imp (fun _ _ e => e) kt kf _ _ q2⟩
            · refine VRs.append (VRs.imp (fun _ _ e => e) kt kf _ _ ra) ?_
              simp only [VRs]
              exact ⟨yv, [], rfl, VR.imp (fun _ _ e => e) kt kf _ _ r6, rfl⟩
            · rw [List.length_append, List.length_singleton]; omega
            · have e9 : L = ((lcM G g c f (wipeE e (own.map (·.2))) (xs.drop (i + 1)) hf).bind fun ys h4 => R.ok (y :: ys) h4).bind fun ys h3 => R.ok (acc ++ ys) h3 := by
                rw [eq]
                show ((f e1 hc').nox.bind _).bind _ = _
                rw [hfx]
                rfl
              rw [e9]
              cases lcM G g c f (wipeE e (own.map (·.2))) (xs.drop (i + 1)) hf with
              | ok ys h4 => exact congrArg (fun l => R.ok l h4) (by simp)
              | exc z h4 => rfl
              | bad => rfl
  · rintro H2 ⟨m2, h2, acc, accV, g2, s2, n2, d2, r2, l2, eq⟩
    have hG := gd eq
    rw [List.drop_length] at eq
    unfold lcM at eq
    rw [if_pos hG] at eq
    have eq2 : L = .ok acc h2 := by
      rw [eq]
      simp [R.bind]
    rw [eq2] at p1
    exact p1 m2 H2 (.ref D) g2 s2 ⟨D, accV, rfl, n2, fun _ => hD, d2, r2⟩
theorem m_lcE {elt tg iter : Expr} {ifs : List Expr} {scope : Scope} {own : List (Str × Nat)} {pos : Pos} {it : ItM} {ts : List Nat} {g : GM} {c : IEnv → IH → R Bool} {f : EM} (hc : X.calm = true) (hN : X.N.Nodup) (hi : PI X tg iter (tIt C X.K W it)) (ok : BlkOk X.N X.env.scope scope own) (sub : ∀ t ∈ ts, t ∈ own.map (·.2))
    (hg : ∀ (s : Shared) (H : Hp) (D : Addr) (cl : List (Str × Addr)) (fp : List Addr), PG (X.blk s H scope (compEnvC scope cl D X.env) fp) tg (tGt X.K ts g)) (ht : ∀ (s : Shared) (H : Hp) (D : Addr) (cl : List (Str × Addr)) (fp : List Addr), PTs (X.blk s H scope (compEnvC scope cl D X.env) fp) ifs (tT C X.K (fun _ _ _ _ => False) c))
    (he : ∀ (s : Shared) (H : Hp) (D : Addr) (cl : List (Str × Addr)) (fp : List Addr), PE (X.blk s H scope (compEnvC scope cl D X.env) fp) elt (tE C X.K (fun _ _ _ _ => False) f)) (hs : ∀ x, foldedSetIterable iter X.env x = pure x) :
    PE X (.ListComp elt [⟨tg, iter, ifs, 0⟩] scope pos) (tL C X.K W (lLc (own.map (·.2)) it g c f)) :=
  pe_weak (pe_lc hc hN hi ok hg ht he hs) (m_lc hc hN hi ok sub hg ht he)
/-- name = [..] -/
theorem ms_setLc {i : Nat} {y : Str} {py : Pos} {elt tg iter : Expr} {ifs : List Expr} {scope : Scope} {own : List (Str × Nat)} {pos spos : Pos} {it : ItM} {ts : List Nat} {g : GM} {c : IEnv → IH → R Bool} {f : EM} (hc : X.calm = true) (hN : X.N.Nodup) (hy : X.N[i]? = some y) (hyl : X.env.scope.names.lookup y = some .local)
    (hsw : swapsWith (.ListComp elt [⟨tg, iter, ifs, 0⟩] scope pos) (some (.Name y py)) spos.line X.env = pure true) (hi : PI X tg iter (tIt C X.K W it)) (ok : BlkOk X.N X.env.scope scope own) (sub : ∀ t ∈ ts, t ∈ own.map (·.2))
    (hg : ∀ (s : Shared) (H : Hp) (D : Addr) (cl : List (Str × Addr)) (fp : List Addr), PG (X.blk s H scope (compEnvC scope cl D X.env) fp) tg (tGt X.K ts g)) (ht : ∀ (s : Shared) (H : Hp) (D : Addr) (cl : List (Str × Addr)) (fp : List Addr), PTs (X.blk s H scope (compEnvC scope cl D X.env) fp) ifs (tT C X.K (fun _ _ _ _ => False) c))
    (he : ∀ (s : Shared) (H : Hp) (D : Addr) (cl : List (Str × Addr)) (fp : List Addr), PE (X.blk s H scope (compEnvC scope cl D X.env) fp) elt (tE C X.K (fun _ _ _ _ => False) f)) (hs : ∀ x, foldedSetIterable iter X.env x = pure x) :
    PS X (.Assign [.Name y py] (.ListComp elt [⟨tg, iter, ifs, 0⟩] scope pos) spos) (tS C X.K W (sAsg (eNew (lLc (own.map (·.2)) it g c f)) (gNm i))) :=
  ps_weak (L2.ps_setLc hc hN hy hyl hsw hi ok hg ht he hs) fun D σ H ⟨m, e, h, er, sr, p⟩ => by
    refine m_lc (W := W) hc hN hi ok sub hg ht he σ H _ ⟨m, e, h, er, sr, new_post ?_⟩
    exact ts_run (rel := rV X.K) er p fun m1 H1 x h1 u g1 s1 er1 r1 p1 => p1 m1 _ H1 Go.refl (er1.set r1) s1
theorem mts_nil : PTs X [] (tT C X.K W tYesM) := ⟨fun pins s σ H Q I ⟨m, e, h, er, sr, p⟩ => pts_nil.run pins s σ H Q I (p.here sr rfl)⟩
end
end MM
/-! M5: defs, calls, the law's end -/
namespace MM
open PySem L2

/-! ### what a def leaves of the small heap -/
mutual
def below (n : Nat) : IV → Bool
  | .ref k => decide (k < n)
  | .tup xs => belows n xs
  | _ => true
def belows (n : Nat) : List IV → Bool
  | [] => true
  | x :: xs => below n x && belows n xs
end
def belowO (n : Nat) : IO → Bool
  | .lst xs => belows n xs
/-- what was made within and is not handed out goes -/
def fin (n : Nat) (v : IV) (h : IH) : R IV :=
  if (h.take n).all (belowO n) = true then
    if below n v = true then .ok v (h.take n) else match v with
      | .ref k => match h[k]? with
        | some (.lst xs) => if n ≤ k ∧ belows n xs = true then .ok (.ref n) (h.take n ++ [.lst xs]) else .ok v h
        | _ => .ok v h
      | _ => .ok v h
  else .ok v h
def fldB (n : Nat) : Option IV → Bool
  | none => true
  | some v => below n v
def finX (n : Nat) (x : XC) (h : IH) : R IV :=
  if (h.take n).all (belowO n) = true ∧ fldB n x.fld = true then .exc x (h.take n) else .exc x h
abbrev FM := List IV → IH → R IV
/-- a def of np parameters and n names -/
def runF (np n : Nat) (b : SM) : FM := fun vs h => if vs.length = np then match b (vs.map some ++ List.replicate (n - vs.length) none) h with
    | .nx _ h' => fin h.length .non h'
    | .rt v h' => fin h.length v h'
    | .exc x _ h' => finX h.length x h'
    | _ => .bad
  else .bad

section
variable {K : PySem.W.Frag} {m m' : List Addr} {H H' : Hp} {h : IH}
mutual
theorem VR.cut {n : Nat} (e : ∀ k : Nat, k < n → m'[k]? = m[k]?) : ∀ (x : IV) (v : V), VR K m' H x v → below n x = true → VR K m H x v
  | .non, _, r, _ => by simpa only [VR] using r
  | .bl _, _, r, _ => by simpa only [VR] using r
  | .int _, _, r, _ => by simpa only [VR] using r
  | .str _, _, r, _ => by simpa only [VR] using r
  | .scr _, _, r, _ => by simpa only [VR] using r
  | .ref k, _, r, b => by
    simp only [VR] at r ⊢
    simp only [below, decide_eq_true_eq] at b
    obtain ⟨a, e1, e2⟩ := r
    exact ⟨a, by rw [← e k b]; exact e1, e2⟩
  | .tup xs, _, r, b => by
    simp only [VR] at r ⊢
    simp only [below] at b
    obtain ⟨a, vs, e1, s, q⟩ := r
    exact ⟨a, vs, e1, s, VRs.cut e xs vs q b⟩
theorem VRs.cut {n : Nat} (e : ∀ k : Nat, k < n → m'[k]? = m[k]?) : ∀ (xs : List IV) (vs : List V), VRs K m' H xs vs → belows n xs = true → VRs K m H xs vs
  | [], _, r, _ => by simpa only [VRs] using r
  | x :: xs, _, r, b => by
    simp only [VRs] at r ⊢
    simp only [belows, Bool.and_eq_true] at b
    obtain ⟨v, q, e1, r1, r2⟩ := r
    exact ⟨v, q, e1, VR.cut e x v r1 b.1, VRs.cut e xs q r2 b.2⟩
end
theorem pre_at (g : Go K m H m' H') : ∀ k : Nat, k < m.length → m'[k]? = m[k]? := fun k hk => by
  rw [List.getElem?_eq_getElem hk]
  exact g.pre k _ (List.getElem?_eq_getElem hk)
theorem Go.back (g : Go K m H m' H') : Go K m H m H' := ⟨fun _ _ e => e, fun _ e => .inl e, g.fr, g.tup, g.frz⟩
theorem SR.cut (g : Go K m H m' H') (s : SR K m' H' h) (b : (h.take m.length).all (belowO m.length) = true) : SR K m H' (h.take m.length) := by
  have hl : m.length ≤ h.length := by
    rw [← s.len]
    cases hm : m.length with
    | zero => exact Nat.zero_le _
    | succ n =>
      have q := g.pre n _ (List.getElem?_eq_getElem (by omega : n < m.length))
      have := (List.getElem?_eq_some_iff.mp q).1
      omega
  refine ⟨by rw [List.length_take]; omega, ?_, fun k o e => ?_⟩
  · -- a beginning of a row without doubles
    have hm : m = m'.take m.length := by
      refine List.ext_getElem? fun i => ?_
      by_cases hi : i < m.length
      · rw [List.getElem?_take_of_lt hi, pre_at g i hi]
      · rw [List.getElem?_eq_none (by omega), List.getElem?_eq_none (by rw [List.length_take]; omega)]
    rw [hm]
    exact s.nd.sublist (List.take_sublist _ _)
  · have hk : k < m.length := by
      have := (List.getElem?_eq_some_iff.mp e).1
      rw [List.length_take] at this
      omega
    have e' : h[k]? = some o := by rw [← e, List.getElem?_take_of_lt hk]
    obtain ⟨a, e1, q⟩ := s.obj k o e'
    rw [pre_at g k hk] at e1
    refine ⟨a, e1, ?_⟩
    have bo : belowO m.length o = true := List.all_eq_true.mp b o (List.mem_of_getElem? e)
    cases o with
    | lst xs =>
      obtain ⟨vs, q1, q2⟩ := q
      exact ⟨vs, q1, VRs.cut (pre_at g) _ _ q2 bo⟩
end

section
variable {C : Cc} {K : PySem.W.Frag} {W : WX} {σ : St} {m m' : List Addr} {H H' : Hp} {h : IH} {Q : VK}
theorem fin_run {v : IV} {u : V} (g : Go K m H m' H') (s : SR K m' H' h) (r : VR K m' H' v u) (p : Post C K W σ m H (rV K) Q (fin m.length v h)) : Q u H' := by
  have plain : Post C K W σ m H (rV K) Q (.ok v h) → Q u H' := fun p => p m' H' u g s r
  unfold fin at p
  split at p
  · rename_i hb
    split at p
    · rename_i hv
      exact p m H' u g.back (s.cut g hb) (VR.cut (pre_at g) _ _ r hv)
    · split at p
      · rename_i k hk0
        split at p
        · rename_i xs hk
          split at p
          · rename_i hx
            obtain ⟨a, vs, rfl, e1, q, rr⟩ := lst_at s r hk
            have na : a ∉ m := fun z => by
              obtain ⟨j, ej⟩ := List.mem_iff_getElem?.mp z
              have hj := (List.getElem?_eq_some_iff.mp ej).1
              have ej' := g.pre j a ej
              have := (List.getElem_inj s.nd (h₀ := (List.getElem?_eq_some_iff.mp ej').1) (h₁ := (List.getElem?_eq_some_iff.mp e1).1)).mp (by
                rw [(List.getElem?_eq_some_iff.mp ej').2, (List.getElem?_eq_some_iff.mp e1).2])
              omega
            have h0 : H a = none := by
              rcases g.new a (List.mem_of_getElem? e1) with z | z
              · exact absurd z na
              · exact z
            have s2 := s.cut g hb
            refine p (m ++ [a]) H' (.ref a) (Go.take q na g.back h0) (s2.take q na (VRs.cut (pre_at g) _ _ rr hx.2)) ?_
            show VR K (m ++ [a]) H' (.ref m.length) (.ref a)
            simp only [VR]
            exact ⟨a, by simp, rfl⟩
          · exact plain p
        · exact plain p
      · exact plain p
  · exact plain p
theorem finX_run {x : XC} {cls : Value} {d : Option Addr} (g : Go K m H m' H') (s : SR K m' H' h) (r : XRel C K m' H' x cls d) (p : Post C K W σ m H (rV K) Q (finX m.length x h)) : W cls d σ H' := by
  unfold finX at p
  split at p
  · rename_i hb
    refine p m H' cls d g.back (s.cut g hb.1) ?_
    obtain ⟨r1, r2⟩ := r
    refine ⟨r1, ?_⟩
    have hb2 := hb.2
    clear hb p
    revert r2 hb2
    cases x.fld with
    | none => exact fun r2 _ => r2
    | some v =>
      intro r2 hb2
      obtain ⟨dd, u, e, n, q, rv⟩ := r2
      refine ⟨dd, u, e, fun z => ?_, q, VR.cut (pre_at g) _ _ rv hb2⟩
      obtain ⟨j, ej⟩ := List.mem_iff_getElem?.mp z
      exact n (List.mem_of_getElem? (g.pre j dd ej))
  · exact p m' H' cls d g s r
end

/-! ### a def -/
structure FnM (P : Program) (w : World) (K : PySem.W.Frag) (mg : Str → Option Value) (base : Heap) (C : Cc) (k : Nat) (f : Addr) (fd : FuncData) (ps : List Str) (F : FM) : Prop where
  len : ∀ xs h, F xs h ≠ .bad → xs.length = ps.length
  run : ∀ (A : Around) (outer : List Env) (s : Shared) (H : Hp) (args : Args) (us : List Value) (vs : List V) (m : List Addr) (h : IH) (xs : List IV) (Q : VK) (E : XK), Room k A → A.guards = some [] → Env0 P w K mg base A outer s H →
    BindsTo s fd args (ps.zip us) → Vals vs us → SR K m H h → VRs K m H xs vs → Post C K (fun cls d _ H' => E cls d H') [] m H (rV K) Q (F xs h) → codeAny (model P w) A (.call (.ref f) args) (CR (L2.CX P w) outer P w H s Q E) s
theorem FnM.mono {P : Program} {w : World} {K : PySem.W.Frag} {mg : Str → Option Value} {base : Heap} {C : Cc} {j k : Nat} {f : Addr} {fd : FuncData} {ps : List Str} {F : FM} (G : FnM P w K mg base C j f fd ps F) (h : j ≤ k) : FnM P w K mg base C k f fd ps F :=
  ⟨G.len, fun A outer s H args us vs m hh xs Q E hr => G.run A outer s H args us vs m hh xs Q E (hr.mono h)⟩
theorem runF_len {np n : Nat} {b : SM} {xs : List IV} {h : IH} (q : runF np n b xs h ≠ .bad) : xs.length = np := by
  unfold runF at q
  split at q
  · assumption
  · exact absurd rfl q
theorem start_er {K : PySem.W.Frag} {m : List Addr} {H : Hp} {N : List Str} {xs : List IV} {vs : List V} (r : VRs K m H xs vs) : ER K m H (xs.map some ++ List.replicate (N.length - xs.length) none) (L2.start N vs) := by
  unfold L2.start
  refine ⟨by simp [r.length], fun i x e => ?_⟩
  by_cases hi : i < xs.length
  · rw [List.getElem?_append_left (by simpa using hi), List.getElem?_map, List.getElem?_eq_getElem hi] at e
    cases e
    obtain ⟨v, h1, h2⟩ := r.get (List.getElem?_eq_getElem hi)
    refine ⟨v, ?_, h2⟩
    rw [List.getElem?_append_left (by rw [List.length_map, ← r.length]; exact hi), List.getElem?_map, h1]
    rfl
  · rw [List.getElem?_append_right (by simpa using hi), List.getElem?_replicate] at e
    split at e <;> cases e
theorem fn_mk {P : Program} {w : World} {K : PySem.W.Frag} {mg : Str → Option Value} {base : Heap} {C : Cc} {k np : Nat} {x qual : Str} {st : Stmt} {f : Addr} {fd : FuncData} {N ps : List Str} {b : SM} (F : Fun K x qual st f fd) (S : FnScope N ps (defScope st)) (hnp : ps.length = np)
    (hbody : ∀ (cdv : Value) (A : Around) (outer : List Env) (s : Shared) (H : Hp) (E : XK), Room k (A.deeper (PyProof.Rows.envOfC qual (defScope st) s.heap.objs.size f cdv)) → (A.deeper (PyProof.Rows.envOfC qual (defScope st) s.heap.objs.size f cdv)).guards = some [] →
      PSs (cxOf (L2.CX P w) P w K mg base N qual (defScope st) f cdv A outer s H E) (defBody st) (tS C K (fun cls d _ H' => E cls d H') b)) :
    FnM P w K mg base C (k + 1) f fd ps (runF np N.length b) := by
  obtain ⟨oc, od, kV, doc, pm, an, cdv, ct, osl, rfl, lk, hcd⟩ := F.ex
  refine ⟨fun xs h q => (runF_len q).trans hnp.symm, fun A outer s H args us vs m h xs Q E hr hgd e0 hb r sr rr p => ?_⟩
  have hne : runF np N.length b xs h ≠ .bad := fun z => by rw [z] at p; exact p
  have hxl := runF_len hne
  have hvl : vs.length = ps.length := by rw [← rr.length, hxl, hnp]
  have KX : K.In s.heap := e0.mod.kin.keeps fun b o e => (e0.bs b o e).1
  have lim : s.heap.NoLimit := e0.mod.nolimit.keeps fun b o e => (e0.bs b o e).1
  have hkind : ∀ y ∈ ps.zip us, (defScope st).names.lookup y.1 = some .local ∨ ((defScope st).names.lookup y.1 = some .cell ∧ ((cellsFrom (s.heap.objs.size + 1) (defScope st).names []).lookup y.1).isSome = true) := by
    rintro ⟨n, v⟩ hy
    rcases S.par n (List.of_mem_zip hy).1 with q | q
    · exact .inl q
    · exact .inr ⟨q, PySem.W.cellsFrom_some _ _ _ (.inl q)⟩
  refine codeAny_call_function hr.depth (KX _ _ lk) rfl S.co S.gen rfl (PySem.W.codeRec_of KX hcd) (hb _ _ _ _ ?_)
  refine wpAny_newFunctionEnv_cells S.kind hkind fun env he s1 xx => ?_
  subst he
  refine ⟨lim.keeps xx.toInCall.keep, codeAny_func ?_⟩
  have body := hbody cdv A outer s H E (hr.deeper _) hgd
  have I : Inv (cxOf (L2.CX P w) P w K mg base N qual (defScope st) f cdv A outer s H E) [] (L2.start N vs) H s1 := inv_start S hr.hd e0 hvl r xx
  have her := start_er (N := N) rr
  have t : tS C K (fun cls d _ H' => E cls d H') b { nx := fun _ H' => Q .non H', rt := Q } (L2.start N vs) H := by
    refine ⟨m, _, h, her, sr, ?_⟩
    unfold runF at p
    rw [if_pos hxl] at p
    cases hq : b (xs.map some ++ List.replicate (N.length - xs.length) none) h with
    | nx e1 h1 => rw [hq] at p; exact fun m' σ' H' g er s' => fin_run (v := .non) (u := .non) g s' (by simp only [VR]) (by rw [sr.len]; exact p)
    | rt v h1 => rw [hq] at p; exact fun m' u H' g rv s' => fin_run g s' rv (by rw [sr.len]; exact p)
    | exc z e1 h1 =>
      rw [hq] at p
      exact fun m' σ' H' cls d g er s' xr => finX_run (W := fun cls d _ H' => E cls d H') (σ := []) g s' xr (by rw [sr.len]; exact p)
    | bk e1 h1 => rw [hq] at p; exact p.elim
    | ct e1 h1 => rw [hq] at p; exact p.elim
    | bad => rw [hq] at p; exact p.elim
  refine wpAny_mono (body.run [] s1 (L2.start N vs) H _ I t) (fun fl s' hs => ?_) fun e s' hs => hs
  have done : ∀ {σ' : St} {H' : Hp} {v : V} {u : Value}, Inv (cxOf (L2.CX P w) P w K mg base N qual (defScope st) f cdv A outer s H E) [] σ' H' s' → RelV v u → Q v H' → CE outer P w H s Q u s' :=
    fun {σ' H' v u} J rv q => ⟨v, H', J.os, J.bare, J.base, J.hok, rv, q⟩
  cases fl with
  | ret u =>
    obtain ⟨v, σ', H', J, rv, q⟩ := hs
    exact done J rv q
  | next =>
    obtain ⟨σ', H', J, q⟩ := hs
    exact done (v := .non) (u := Value.none) J rfl q
  | brk =>
    obtain ⟨_, _, _, q⟩ := hs
    exact q.elim
  | cont =>
    obtain ⟨_, _, _, q⟩ := hs
    exact q.elim

/-! ### calls -/
section
variable {X : Cx} {C : Cc} {W : WX}
theorem post_w {α β : Type} {K : PySem.W.Frag} {rel : Rel α β} {σ σ' : St} {m : List Addr} {H : Hp} {W W' : WX} {Q : β → Hp → Prop} {r : R α} (hW : ∀ c d H, W c d σ H → W' c d σ' H) (p : Post C K W σ m H rel Q r) : Post C K W' σ' m H rel Q r := by
  cases r with
  | ok a h' => exact p
  | exc x h' => exact fun m1 H1 c d g s q => hW _ _ _ (p m1 H1 c d g s q)
  | bad => exact p
theorem run_m {k : Nat} {f : Addr} {fd : FuncData} {ps : List Str} {F : FM} {pins : List (Addr × Obj)} {σ : St} {H : Hp} {s : Shared} {Q : VK} {us : List Value} {vs : List V} {kw : List (Str × Value)} {m : List Addr} {h : IH} {xs : List IV} {us' : List Value}
    (G : FnM X.prog X.w X.K X.mg X.base C k f fd ps F) (hr : Room k X.A) (hgd : X.A.guards = some []) (tk : Takes X W) (I : Inv X pins σ H s) (hb : BindsTo s fd ⟨us', kw⟩ (ps.zip us)) (r : Vals vs us) (sr : SR X.K m H h) (rr : VRs X.K m H xs vs)
    (p : Post C X.K W σ m H (rV X.K) Q (F xs h)) : wpAny (model X.prog X.w) X.A (call (.ref f) us' kw) (EP X pins σ Q) X.xe s := by
  refine wpAny_call (codeAny_mono (G.run X.A X.stack s H ⟨us', kw⟩ us vs m h xs Q (fun cls d H' => W cls d σ H') hr hgd I.env0 hb r sr rr (post_w (W := W) (σ := σ) (fun _ _ _ z => z) p)) fun r' s' hq => ?_)
  cases r' with
  | error e => exact tk e s' (XE.of_call I (fun _ _ _ z => z) hq)
  | ok fl =>
    cases fl with
    | ret u => exact I.after hq
    | next => exact False.elim hq
    | brk => exact False.elim hq
    | cont => exact False.elim hq
theorem m_call {k : Nat} {f : Addr} {fd : FuncData} {ps : List Str} {F : FM} {x : Str} {e : Expr} {es : List Expr} {p pos : Pos} {g : IEnv → IH → R (List IV)} (G : FnM X.prog X.w X.K X.mg X.base C k f fd ps F) (hr : Room k X.A) (hgd : X.A.guards = some []) (tk : Takes X W)
    (hg : Gl X x) (hm : X.mg x = some (.ref f)) (hk : PySem.W.keepIn X.K (.ref f) = true) (hb : Binds X.K fd ps []) (ha : PA X (e :: es) (tA C X.K W g)) (hdb : (x == ("__debug__" : Str)) = false)
    (he : starEach (e :: es) X.env = (false, eval e X.env) :: starEach es X.env) (hpl : (backTo pos (starEach es X.env)).any (·.1) = false) : PE X (.Call (.Name x p) (e :: es) [] pos) (tE C X.K W (eC F g)) := by
  refine ⟨fun pins s σ H Q I ⟨m, env, h, er, sr, pp⟩ => ?_⟩
  refine wpAny_Call_Name_kw (ld_glob I hg hm ?_ hdb)
  refine PySem.W.callWith_K (h₀ := X.base) I.ok.mod.kin hk (thn (ha.run pos pins s σ H (fun vs H1 => ∃ m1 h1 xs, SR X.K m1 H1 h1 ∧ VRs X.K m1 H1 xs vs ∧ Post C X.K W σ m1 H1 (rV X.K) Q (F xs h1)) I ⟨m, env, h, er, sr, ?_⟩) fun us s1 ⟨vs, H1, I1, r, m1, h1, xs, sr1, rr, q⟩ => ⟨I1.kIn, ?_⟩) he hpl
  · exact tg_run pp fun m1 H1 xs h1 vs g1 s1 r1 p1 => ⟨m1, h1, xs, s1, r1, p1⟩
  · have hne : F xs h1 ≠ .bad := fun z => by rw [z] at q; exact q
    have hl : us.length = ps.length := by rw [← r.length, ← rr.length]; exact G.len _ _ hne
    exact run_m G hr hgd tk I1 (by have := hb s1 us I1.kIn (by simpa using hl); simpa using this) r sr1 rr q
theorem m_call0 {k : Nat} {f : Addr} {fd : FuncData} {ps : List Str} {F : FM} {x : Str} {p pos : Pos} (G : FnM X.prog X.w X.K X.mg X.base C k f fd ps F) (hr : Room k X.A) (hgd : X.A.guards = some []) (tk : Takes X W)
    (hg : Gl X x) (hm : X.mg x = some (.ref f)) (hk : PySem.W.keepIn X.K (.ref f) = true) (hb : Binds X.K fd ps []) (hdb : (x == ("__debug__" : Str)) = false) : PE X (.Call (.Name x p) [] [] pos) (tE C X.K W (eC F aNil)) := by
  refine ⟨fun pins s σ H Q I ⟨m, env, h, er, sr, pp⟩ => ?_⟩
  refine wpAny_Call_Name_kw (ld_glob I hg hm ?_ hdb)
  have q : Post C X.K W σ m H (rV X.K) Q (F [] h) := pp
  have hne : F [] h ≠ .bad := fun z => by rw [z] at q; exact q
  have hl := G.len _ _ hne
  exact PySem.W.callWith_K0 I.kIn hk (run_m (us := []) (us' := []) (vs := []) (xs := []) G hr hgd tk I (by have := hb s [] I.kIn (by simpa using hl); simpa using this) .nil sr (by simp only [VRs]) q)

/-- by places: the positional values, then the keywords' -/
def pick {α : Type} (ix : List Nat) (l : List α) : List α := ix.filterMap (l[·]?)
theorem pick_cons {α : Type} (i : Nat) (ix : List Nat) (l : List α) : pick (i :: ix) l = (match l[i]? with | some a => a :: pick ix l | none => pick ix l) := by
  unfold pick
  rw [List.filterMap_cons]
  cases l[i]? <;> rfl
theorem pick_vr {K : PySem.W.Frag} {m : List Addr} {H : Hp} {xs : List IV} {vs : List V} (r : VRs K m H xs vs) : ∀ ix : List Nat, VRs K m H (pick ix xs) (pick ix vs)
  | [] => by simp [pick, VRs]
  | i :: ix => by
    rw [pick_cons, pick_cons]
    by_cases hi : i < xs.length
    · obtain ⟨v, h1, h2⟩ := r.get (List.getElem?_eq_getElem hi)
      rw [h1, List.getElem?_eq_getElem hi]
      simp only [VRs]
      exact ⟨v, _, rfl, h2, pick_vr r ix⟩
    · rw [List.getElem?_eq_none (by omega), List.getElem?_eq_none (by rw [← r.length]; omega)]
      exact pick_vr r ix
theorem pick_vals {vs : List V} {us : List Value} (r : Vals vs us) : ∀ ix : List Nat, Vals (pick ix vs) (pick ix us)
  | [] => .nil
  | i :: ix => by
    rw [pick_cons, pick_cons]
    cases e : vs[i]? with
    | some v =>
      obtain ⟨u, h1, h2⟩ := r.get e
      rw [h1]
      exact .cons h2 (pick_vals r ix)
    | none =>
      rw [r.none_of e]
      exact pick_vals r ix
def eCK (F : FM) (ix : List Nat) (f g : IEnv → IH → R (List IV)) : EM := fun env h => (f env h).bind fun xs h1 => (g env h1).bind fun ys h2 => F (pick ix (xs ++ ys)) h2
def KwOk (K : PySem.W.Frag) (fd : FuncData) (ps ks : List Str) (ix : List Nat) (nu : Nat) : Prop :=
  ∀ (s : Shared) (us ws : List Value), us.length = nu → ws.length = ks.length → BindsTo s fd ⟨us, ks.zip ws⟩ (ps.zip (pick ix (us ++ ws)))
theorem m_kNil : PK X [] (tA C X.K W aNil) := ⟨fun pos pins s σ H Q I ⟨m, e, h, er, sr, p⟩ => pk_nil.run pos pins s σ H Q I (p.here sr (by simp only [rVs, VRs]))⟩
theorem m_kCons {nm : Option Str} {e : Expr} {kpos : Pos} {kws : List Keyword} {f : EM} {g : IEnv → IH → R (List IV)} (ha : PE X e (tE C X.K W f)) (hr : PK X kws (tA C X.K W g)) : PK X (⟨nm, e, kpos⟩ :: kws) (tA C X.K W (aCons f g)) :=
  ⟨fun pos pins s σ H Q I ⟨m, env, h, er, sr, p⟩ => (pk_cons ha hr).run pos pins s σ H Q I ⟨m, env, h, er, sr, tg_run p fun m1 H1 x h1 u1 g1 s1 r1 p1 => ⟨m1, env, h1, er.mono g1, s1, tg_run p1 fun m2 H2 a h2 u2 g2 s2 r2 p2 =>
    p2.here s2 (by simp only [rVs, VRs]; exact ⟨u1, u2, rfl, VR.mono g2 _ _ r1, r2⟩)⟩⟩⟩
theorem m_callK0 {k : Nat} {f : Addr} {fd : FuncData} {ps ks : List Str} {ix : List Nat} {F : FM} {x : Str} {kws : List Keyword} {p pos : Pos} {g : IEnv → IH → R (List IV)} (G : FnM X.prog X.w X.K X.mg X.base C k f fd ps F) (hr : Room k X.A) (hgd : X.A.guards = some []) (tk : Takes X W)
    (hg : Gl X x) (hm : X.mg x = some (.ref f)) (hk : PySem.W.keepIn X.K (.ref f) = true) (hb : KwOk X.K fd ps ks ix 0) (ha : PK X kws (tA C X.K W g)) (hnk : kws.length = ks.length) (hdb : (x == ("__debug__" : Str)) = false)
    (hall : (backToKw pos (keywordEach kws X.env)).all (·.1.isSome) = true) (hks : (backToKw pos (keywordEach kws X.env)).filterMap (·.1) = ks) (hgl : ∀ env h xs h1, g env h = .ok xs h1 → xs.length = ks.length)
    (hpl : ((backTo pos (starEach [] X.env)).any (·.1) || (backToKw pos (keywordEach kws X.env)).any (·.1.isNone)) = false) :
    PE X (.Call (.Name x p) [] kws pos) (tE C X.K W (eCK F ix aNil g)) := by
  refine ⟨fun pins s σ H Q I ⟨m, env, h, er, sr, pp⟩ => ?_⟩
  refine wpAny_Call_Name_kw (ld_glob I hg hm ?_ hdb)
  have pp' : Post C X.K W σ m H (rV X.K) Q ((g env h).bind fun ys h2 => F (pick ix ys) h2) := pp
  refine PySem.W.callWith_KW0 (h₀ := X.base) I.ok.mod.kin hk hall (thn (ha.run pos pins s σ H (fun vs H1 => ∃ m1 h1 xs, SR X.K m1 H1 h1 ∧ VRs X.K m1 H1 xs vs ∧ xs.length = ks.length ∧ Post C X.K W σ m1 H1 (rV X.K) Q (F (pick ix xs) h1)) I ⟨m, env, h, er, sr, ?_⟩) fun us s1 ⟨vs, H1, I1, r, m1, h1, xs, sr1, rr, hl, q⟩ => ⟨I1.kIn, ?_⟩) hpl
  · cases hgx : g env h with
    | ok xs h1 =>
      rw [hgx] at pp'
      exact fun m1 H1 vs g1 s1 r1 => ⟨m1, h1, xs, s1, r1, hgl _ _ _ _ hgx, Post.mono g1 pp'⟩
    | exc z h1 => rw [hgx] at pp'; exact pp'
    | bad => rw [hgx] at pp'; exact pp'
  · rw [hks]
    have hl2 : us.length = ks.length := by rw [← r.length, ← rr.length]; exact hl
    exact run_m (us := pick ix us) G hr hgd tk I1 (hb s1 [] us rfl hl2) (pick_vals r ix) sr1 (pick_vr rr ix) q
theorem m_callK {k nu : Nat} {f : Addr} {fd : FuncData} {ps ks : List Str} {ix : List Nat} {F : FM} {x : Str} {e : Expr} {es : List Expr} {kws : List Keyword} {p pos : Pos} {g1' g : IEnv → IH → R (List IV)} (G : FnM X.prog X.w X.K X.mg X.base C k f fd ps F) (hr : Room k X.A) (hgd : X.A.guards = some []) (tk : Takes X W)
    (hg : Gl X x) (hm : X.mg x = some (.ref f)) (hk : PySem.W.keepIn X.K (.ref f) = true) (hb : KwOk X.K fd ps ks ix nu) (ha1 : PA X (e :: es) (tA C X.K W g1')) (ha : PK X kws (tA C X.K W g)) (hdb : (x == ("__debug__" : Str)) = false)
    (hall : (backToKw pos (keywordEach kws X.env)).all (·.1.isSome) = true) (hks : (backToKw pos (keywordEach kws X.env)).filterMap (·.1) = ks) (hgl : ∀ env h xs h1, g env h = .ok xs h1 → xs.length = ks.length) (hgl1 : ∀ env h xs h1, g1' env h = .ok xs h1 → xs.length = nu)
    (he : starEach (e :: es) X.env = (false, eval e X.env) :: starEach es X.env) (hpl : ((backTo pos (starEach (e :: es) X.env)).any (·.1) || (backToKw pos (keywordEach kws X.env)).any (·.1.isNone)) = false) :
    PE X (.Call (.Name x p) (e :: es) kws pos) (tE C X.K W (eCK F ix g1' g)) := by
  refine ⟨fun pins s σ H Q I ⟨m, env, h, er, sr, pp⟩ => ?_⟩
  refine wpAny_Call_Name_kw (ld_glob I hg hm ?_ hdb)
  refine PySem.W.callWith_KW (h₀ := X.base) I.ok.mod.kin hk hall (thn (ha1.run pos pins s σ H (fun vs H1 => ∃ m1 h1 xs, Go X.K m H m1 H1 ∧ SR X.K m1 H1 h1 ∧ VRs X.K m1 H1 xs vs ∧ xs.length = nu ∧ Post C X.K W σ m1 H1 (rV X.K) Q ((g env h1).bind fun ys h2 => F (pick ix (xs ++ ys)) h2)) I ⟨m, env, h, er, sr, ?_⟩) fun us s1 ⟨vs, H1, I1, r, m1, h1, xs, go1, sr1, rr, hl, q⟩ => ?_) hpl he
  · unfold eCK at pp
    cases hgx : g1' env h with
    | ok xs h1 =>
      rw [hgx] at pp
      exact fun m1 H1 vs g1 s1 r1 => ⟨m1, h1, xs, g1, s1, r1, hgl1 _ _ _ _ hgx, Post.mono g1 pp⟩
    | exc z h1 => rw [hgx] at pp; exact pp
    | bad => rw [hgx] at pp; exact pp
  · refine thn (ha.run pos pins s1 σ H1 (fun ws H2 => ∃ m2 h2 ys, Go X.K m1 H1 m2 H2 ∧ SR X.K m2 H2 h2 ∧ VRs X.K m2 H2 ys ws ∧ ys.length = ks.length ∧ Post C X.K W σ m2 H2 (rV X.K) Q (F (pick ix (xs ++ ys)) h2)) I1 ⟨m1, env, h1, er.mono go1, sr1, ?_⟩) fun ws s2 ⟨zs, H2, I2, r2, m2, h2, ys, go2, sr2, rr2, hl2, q2⟩ => ⟨I2.kIn, ?_⟩
    · cases hgx : g env h1 with
      | ok ys h2 =>
        rw [hgx] at q
        exact fun m2 H2 vs g1 s1 r1 => ⟨m2, h2, ys, g1, s1, r1, hgl _ _ _ _ hgx, Post.mono g1 q⟩
      | exc z h1 => rw [hgx] at q; exact q
      | bad => rw [hgx] at q; exact q
    · rw [hks]
      have n1 : us.length = nu := by rw [← r.length, ← rr.length]; exact hl
      have n2 : ws.length = ks.length := by rw [← r2.length, ← rr2.length]; exact hl2
      exact run_m (us := pick ix (us ++ ws)) G hr hgd tk I2 (hb s2 us ws n1 n2) (pick_vals (r.append r2) ix) sr2 (pick_vr (VRs.append (VRs.mono go2 _ _ rr) rr2) ix) q2
end
end MM
/-! M6: enumerate over tuples -/
namespace MM
open PySem L2

theorem meets_enumT {v : Value} {o : Obj} {H : Heap → Prop} (B : Begins v o H) :
    Meets (Builtin.«enumerate.__new__» ⟨[.type "enumerate", v], []⟩) (fun _ R s => H s.heap ∧
      R (.ok (.ret (.ref (s.heap.push o).objs.size))) { s with heap := (s.heap.push o).push { cls := .type "enumerate", data := .fields #[.none, .bool false, .ref s.heap.objs.size, rawInt 0, .none, .none] } }) :=
  .of_wp fun prog w A R s h => by
    obtain ⟨hp, g, d, tk, os⟩ := s; obtain ⟨h1, h⟩ := h
    have hsub := sub_enumerate
    have q1 : ∀ {A' : Around} {E : Value → Shared → Prop} {Q : Value → Shared → Prop}, Q (.ref hp.objs.size) ⟨hp.push o, g, d, tk, os⟩ → wpAny (model prog w) A' (pyIter v) Q E ⟨hp, g, d, tk, os⟩ :=
      fun q => B.iter prog w _ _ ⟨hp, g, d, tk, os⟩ _ h1 q
    wp_walk using q1
    refine wpAny_stack_any fun st => wpAny_pure ?_
    split
    · rename_i c _ _ _ _ _
      cases (c == Value.type "enumerate")
      · wp_walk using q1
        exact ⟨_, rfl, h⟩
      · wp_walk using q1
        exact ⟨_, rfl, h⟩
    · wp_walk using q1
      exact ⟨_, rfl, h⟩
section
variable {prog : Program} {w : World} {A : Around} {E : Value → Shared → Prop} {s : Shared}
theorem enum_T {v : Value} {o : Obj} {H : Heap → Prop} {Q : Value → Shared → Prop} (B : Begins v o H) (h1 : H s.heap)
    (h : ∀ h', IsEnum h' (s.heap.objs.size + 1) s.heap.objs.size 0 .none → h'.get? s.heap.objs.size = some o → h'.objs.size = s.heap.objs.size + 2 →
      (∀ b o, s.heap.get? b = some o → h'.get? b = some o) → Q (.ref (s.heap.objs.size + 1)) { s with heap := h' }) :
    wpAny (model prog w) A (call (.type "enumerate") [v]) Q E s := by
  refine callType_new F.called_enumerate (by decide) (F.typeCall_enumerate_1 _) (F.newCall_enumerate_1 _) (fun obj => F.args_object_init_2 obj _) F.entry_enumerate_new
    (meets_enumT B) ⟨h1, ?_⟩
  have hz : (s.heap.push o).objs.size = s.heap.objs.size + 1 := Heap.size_push ..
  show _ ∧ _
  rw [hz]
  have he : IsEnum ((s.heap.push o).push { cls := .type "enumerate", data := .fields #[.none, .bool false, .ref s.heap.objs.size, rawInt 0, .none, .none] }) (s.heap.objs.size + 1) s.heap.objs.size 0 .none := by
    have := Heap.get?_push_size (s.heap.push o) (o := { cls := .type "enumerate", data := .fields #[.none, .bool false, .ref s.heap.objs.size, rawInt 0, .none, .none] }) rfl
    rw [hz] at this; exact this
  exact ⟨⟨_, he, rfl⟩, h _ he (Heap.get?_push_of_some _ (Heap.get?_push_size _ B.free)) (by rw [Heap.size_push, hz]) fun b o x => Heap.get?_push_of_some _ (Heap.get?_push_of_some _ x)⟩
end

/-- a tuple's items with their numbers, each in a new pair -/
def ItT (K : PySem.W.Frag) (a : Addr) : It :=
  ⟨fun i H => ∃ (xs : List V) (x : V), SqT K H a xs ∧ xs[i]? = some x, fun i H v H' => ∃ T x ob, v = .ref T ∧ H T = none ∧ ob.dict = none ∧ H' = upd H T (.frz ob (.tup [.int (i : Nat), x])) ∧ ∀ xs, SqT K H a xs → xs[i]? = some x, fun i H => ∃ xs : List V, SqT K H a xs ∧ xs.length ≤ i⟩
theorem turn_enumT {P : Program} {w : World} {K : PySem.W.Frag} {elts : List Expr} {kk : Nat} {tpos : Pos} (a e it : Addr) (hei : e ≠ it) (hea : e ≠ a) (hai : a ≠ it) :
    Turn P w K (.Tuple elts kk tpos) (ItT K a) [e, it] e (fun i h => (∃ old, IsEnum h e it ((i : Nat) : Int) old) ∧ h.IsTupleIter it a i) where
  mem := by simp
  obj := fun i h st b hb => by
    obtain ⟨⟨old, he⟩, ⟨o, ho, hc, hd⟩⟩ := st
    have e' : b = e ∨ b = it := by simpa using hb
    rcases e' with z | z
    · rw [z]; exact ⟨_, he, fun v q => nomatch q⟩
    · rw [z]; exact ⟨o, ho, fun v q => by rw [hd] at q; cases q⟩
  keep := fun i h h' st k => let ⟨⟨old, he⟩, hi⟩ := st; ⟨⟨old, k e (by simp) _ he⟩, hi.at fun o q => k it (by simp) o q⟩
  item := by
    intro X hP hw hK hc i pins s σ H E I hf st hg
    subst hP hw hK
    obtain ⟨⟨old, he⟩, hit⟩ := st
    obtain ⟨xs, x, hq, hx⟩ := hg
    obtain ⟨its, rv, p, hz⟩ := I.tuple hq
    obtain ⟨u, hu, ru⟩ := rv.get hx
    have hel : e < s.heap.objs.size := Heap.lt_size he
    have hil : it < s.heap.objs.size := by obtain ⟨_, q, _⟩ := hit; exact Heap.lt_size q
    have hlt : i < its.toArray.size := by
      have := (List.getElem?_eq_some_iff.mp hu).1
      simpa using this
    have hh : X.A.in1.handled = none := I.ok.hd hc
    refine wpAny_pyNext_enum_itemD (Draws.tuple hh it a hai its.toArray) he ⟨hit, p⟩ hlt hei (by simp [hei, hea]) fun x' h' tk hx' ho st' hT hsz hk => ?_
    obtain ⟨hit', hp'⟩ := st'
    have hxu : x' = u := by
      have h1 : its.toArray[i]? = some x' := hx'
      have h2 : its.toArray[i]? = some u := by simpa using hu
      rw [h1] at h2
      exact Option.some.inj h2
    subst hxu
    refine ⟨_, rfl, wpAny_letOwnedTupleGo_enum (s := { s with heap := h', toks := tk + 1 }) ho fun h'' he' sb => ?_⟩
    have hT2 : h''.get? s.heap.objs.size = some { cls := .type "tuple", data := .seq #[.int i tk, x'] } := (sb.2 _ (Nat.ne_of_gt hel)).trans hT
    have new : ObjOk X.prog X.w (upd H s.heap.objs.size (.frz { cls := .type "tuple", data := .seq #[.int i tk, x'] } (.tup [.int (i : Nat), x]))) h'' s.heap.objs.size (.frz { cls := .type "tuple", data := .seq #[.int i tk, x'] } (.tup [.int (i : Nat), x])) :=
      ⟨hT2, by show 2 ≤ sizeLine; decide, [.int i tk, x'], .cons ⟨_, rfl⟩ (.cons ru .nil), ⟨_, hT2, rfl, _, rfl⟩⟩
    have I1 : Inv X pins σ (upd H s.heap.objs.size (.frz { cls := .type "tuple", data := .seq #[.int i tk, x'] } (.tup [.int (i : Nat), x]))) { s with heap := h'', toks := tk + 1 } :=
      I.turnedNew (ch := [e, it]) (fun b ob hb q => (sb.2 b (fun z => hb (by simp [z]))).trans (hk b ob (fun z => hb (by simp [z])) (fun z => hb (by simp [z])) q)) hf (Nat.le_refl _) new
    refine ⟨.ref s.heap.objs.size, _, I1, rfl, ⟨_, x, _, rfl, I.hok.fresh (Nat.le_refl _), rfl, rfl, fun ys hy => by rw [I.tuple_inj hy hq]; exact hx⟩, ⟨⟨x', ?_⟩, hit'.at fun o q => (sb.2 it (Ne.symm hei)).trans q⟩, fun b hb => ?_⟩
    · have e1 : ((i + 1 : Nat) : Int) = (i : Int) + 1 := by omega
      rw [e1]; exact he'
    · have hb' : b < s.heap.objs.size := by
        have e' : b = e ∨ b = it := by simpa using hb
        rcases e' with z | z
        · rw [z]; exact hel
        · rw [z]; exact hil
      rw [upd_ne (Nat.ne_of_lt hb')]
      exact (hf b hb).1
  done := by
    intro X hP hw hK hc i pins s σ H E I hf st hg
    subst hP hw hK
    obtain ⟨⟨old, he⟩, hit⟩ := st
    obtain ⟨xs, hq, hx⟩ := hg
    obtain ⟨its, rv, p, hz⟩ := I.tuple hq
    obtain ⟨f0, f1, f2, f3, f4, f5⟩ := hf it (by simp)
    have hl := rv.length
    have hh : X.A.in1.handled = none := I.ok.hd hc
    have hend : its.toArray[i]? = none := by simp; omega
    have hT : s.TypeIs (.ref e) "enumerate" := ⟨_, he, rfl⟩
    unfold pyNext
    refine wpAny_bind (wpAny_attempt (wpAny_callSpecial?_slot (name := Str.ofString "__next__") hT F.slot_enumerate_next
      (wpAny_call_entry F.slot_enumerate_next hT F.entry_enumerate_next ?_ (F.args_enumerate_next_1 _))))
    show wpAny _ _ (field (.ref e) 2 >>= _) _ _ _
    refine wpAny_bind (wpAny_field he rfl (x := .ref it) rfl ?_)
    refine wpAny_bind (wpAny_nextOf_tuple_end hh hit p hend fun h' x he' hx' => ?_)
    obtain ⟨o, ho, hc⟩ := hx'
    refine wpAny_bind (wpAny_isInstance (T := "StopIteration") (b := true) ⟨o, ho, hc⟩ isSubtype_stop ?_)
    exact wpAny_pure ⟨rfl, I.turned (t' := s.toks) (fun b o hb q => he' b o hb q) f0 f1 f3 f4 f5⟩
  self := fun A i s Q E st h => let ⟨⟨_, he⟩, _⟩ := st; wpAny_pyIter_enum he h
def iEnumA (K : PySem.W.Frag) (ta : TA) : TI := fun σ H R => ta σ H fun vs H1 => ∃ a xs, vs = [.ref a] ∧ SqT K H1 a xs ∧ R (ItT K a) H1
theorem pi_enumT {X : Cx} {e : Expr} {ta : TA} {p pos tpos : Pos} {elts : List Expr} {kk : Nat} (hg : Gl X "enumerate") (hm : X.mg "enumerate" = none) (ha : PA X [e] ta) (hs : starEach [e] X.env = [(false, eval e X.env)]) :
    PI X (.Tuple elts kk tpos) (.Call (.Name "enumerate" p) [e] [] pos) (iEnumA X.K ta) := by
  refine ⟨fun pins s σ H R I h => ?_⟩
  refine PyProof.Rows.Call_ (ld_blt (u := .type "enumerate") I hg hm (by decide +kernel) (PyProof.Rows.callWith_type1 (thn (ha.run pos pins s σ H _ I h) fun us s1 ⟨vs, H1, I1, r1, q1⟩ => ?_) hs rfl))
  obtain ⟨a, xs, ex, hq, q⟩ := q1
  subst ex
  cases r1 with
  | cons r rr =>
    cases rr
    cases r
    obtain ⟨its, rv, p', hz⟩ := I1.tuple hq
    have hal : a < s1.heap.objs.size := by obtain ⟨_, q, _⟩ := p'; exact Heap.lt_size q
    refine enum_T (begins_tuple a its.toArray) p' fun h' he hit hsz hk => wpAny_pyIter_enum he ?_
    have I2 : Inv X pins σ H1 { s1 with heap := h' } := I1.kept (t' := s1.toks) hk
    refine ⟨s1.heap.objs.size + 1, [s1.heap.objs.size + 1, s1.heap.objs.size], _, _, H1, rfl, I2, turn_enumT a (s1.heap.objs.size + 1) s1.heap.objs.size (Nat.succ_ne_self _) (fun z => absurd hal (Nat.not_lt.mpr (z ▸ Nat.le_succ _))) (Nat.ne_of_lt hal), ⟨⟨.none, he⟩, ⟨_, hit, rfl, rfl⟩⟩, fun b hb => ?_, q⟩
    have e' : b = s1.heap.objs.size + 1 ∨ b = s1.heap.objs.size := by simpa using hb
    have hle : s1.heap.objs.size ≤ b := by
      rcases e' with z | z
      · rw [z]; exact Nat.le_add_right _ _
      · rw [z]; exact Nat.le_refl _
    exact I1.fpOk hle (I1.hok.fresh hle)
theorem enumFrom_at : ∀ (xs : List IV) (j i : Nat) (x : IV), xs[i]? = some x → (enumFrom j xs)[i]? = some (.tup [.int ((j + i : Nat) : Int), x])
  | y :: ys, j, 0, x, h => by
    rw [List.getElem?_cons_zero] at h
    cases h
    unfold enumFrom
    rfl
  | y :: ys, j, i + 1, x, h => by
    rw [List.getElem?_cons_succ] at h
    have e := enumFrom_at ys (j + 1) i x h
    unfold enumFrom
    rw [List.getElem?_cons_succ, e]
    have : j + 1 + i = j + (i + 1) := by omega
    rw [this]
theorem enumFrom_len : ∀ (xs : List IV) (j : Nat), (enumFrom j xs).length = xs.length
  | [], _ => rfl
  | _ :: ys, j => by unfold enumFrom; simp [enumFrom_len ys]
def iEnumT (f : EM) : ItM := fun e h => (f e h).bind fun x h1 => match x with
  | .tup xs => .ok (enumFrom 0 xs, fun _ => true) h1
  | _ => .bad
theorem mi_enumT {X : Cx} {C : Cc} {W : WX} {e : Expr} {f : EM} {p pos tpos : Pos} {elts : List Expr} {kk : Nat} (hg : Gl X "enumerate") (hm : X.mg "enumerate" = none) (he : PE X e (tE C X.K W f)) (hs : starEach [e] X.env = [(false, eval e X.env)]) :
    PI X (.Tuple elts kk tpos) (.Call (.Name "enumerate" p) [e] [] pos) (tIt C X.K W (iEnumT f)) :=
  ⟨fun pins s σ H R I ⟨m, env, h, er, sr, q⟩ => (pi_enumT (elts := elts) (kk := kk) (tpos := tpos) hg hm (m_aCons he m_aNil hs) hs).run pins s σ H R I (by
    refine ⟨m, env, h, er, sr, ?_⟩
    unfold aCons aNil
    have q2 : Post C X.K W σ m H (rI X.K) R ((f env h).bind fun x h1 => match x with
      | .tup xs => .ok (enumFrom 0 xs, fun _ => true) h1
      | _ => .bad) := q
    cases hf : f env h with
    | bad => rw [hf] at q2; exact q2
    | exc z h1 => rw [hf] at q2; exact q2
    | ok x h1 =>
      rw [hf] at q2
      intro m1 H1 us g1 s1 r1
      have q3 := Post.mono g1 q2
      change VRs X.K m1 H1 [x] us at r1
      simp only [VRs] at r1
      obtain ⟨v1, r, rfl, rv, rfl⟩ := r1
      cases x <;> first | exact q2.elim | skip
      rename_i xs
      simp only [VR] at rv
      obtain ⟨a, vs, rfl, t, rr⟩ := rv
      refine ⟨a, vs, rfl, t.sq, Post.here q3 s1 ?_⟩
      refine ⟨fun H2 => SqT X.K H2 a vs, fun i H2 x H3 => ∃ T u ob, x = .ref T ∧ H2 T = none ∧ ob.dict = none ∧ H3 = upd H2 T (.frz ob (.tup [.int (i : Nat), u])) ∧ vs[i]? = some u, ?_, fun m2 H2 h2 g2 s2 _ => ⟨(g2.tup _ _ t).sq, fun i x H3 hi ⟨T, u, ob, e1, e2, ed, e3, e4⟩ => ?_⟩⟩
      · dsimp only
        rw [enumFrom_len, rr.length]
        refine ⟨fun i H hi h => ⟨vs, vs[i], h, List.getElem?_eq_getElem hi⟩, fun H h => ⟨vs, h, Nat.le_refl _⟩, fun i H x H' hi h ⟨T, u, ob, e1, e2, ed, e3, e4⟩ => ⟨T, u, ob, e1, e2, ed, e3, e4 vs h⟩⟩
      · subst e1; subst e3
        have hi2 : i < xs.length := by rw [rr.length]; exact (List.getElem?_eq_some_iff.mp e4).1
        obtain ⟨v, h5, h6⟩ := rr.get (List.getElem?_eq_getElem hi2)
        rw [e4] at h5; cases h5
        refine ⟨_, enumFrom_at xs 0 i _ (List.getElem?_eq_getElem hi2), Go.laid e2, s2.laid e2, VR.newTup e2 ed ?_⟩
        simp only [VRs, VR]
        exact ⟨.int ((0 + i : Nat) : Int), [u], by simp, rfl, u, [], rfl, VR.mono g2 _ _ h6, rfl⟩)⟩
end MM
/-! M7: lists joined and repeated, garbage, calls in short, the law's end -/
namespace MM
open PySem L2

section
variable {X : Cx} {C : Cc} {W : WX}
/-! ### [..] * n, [..] + [..] -/
theorem flat_rel {K : PySem.W.Frag} {m : List Addr} {H : Hp} {xs : List IV} {vs : List V} (r : VRs K m H xs vs) : ∀ n : Nat, VRs K m H (List.replicate n xs).flatten (List.replicate n vs).flatten
  | 0 => by simp [VRs]
  | n + 1 => by
    rw [List.replicate_succ, List.replicate_succ, List.flatten_cons, List.flatten_cons]
    exact VRs.append r (flat_rel r n)
theorem m_rep {a b : Expr} {f : IEnv → IH → R (List IV)} {g : EM} {pos : Pos} (ha : PE X a (tL C X.K W f)) (hb : PE X b (tE C X.K W g)) : PE X (.BinOp a .Mult b pos) (tL C X.K W (lRep f g)) :=
  pe_weak (pe_op op_rep ha hb) fun σ H Q ⟨m, env, h, er, sr, p⟩ => ⟨m, env, h, er, sr, tg_run p fun m1 H1 xs h1 u g1 s1 r1 p1 => ⟨m1, env, h1, er.mono g1, s1, tg_run p1 fun m2 H2 y h2 v g2 s2 r2 p2 => by
    obtain ⟨q, vs, rfl, n, _, hq, rr⟩ := r1
    cases y <;> first | exact p2.elim | skip
    rename_i k
    simp only [rV, VR] at r2
    subst r2
    dsimp only at p2
    split at p2
    · rename_i hz
      refine ⟨q, k, vs, rfl, rfl, g2.fr _ _ hq n, hz.1, hz.2.1, by rw [← rr.length]; exact hz.2.2, fun w hw => post_lst s2 p2 (flat_rel (VRs.mono g2 _ _ rr) _) hw⟩
    · exact p2.elim⟩⟩
theorem m_cat {a b : Expr} {f g : IEnv → IH → R (List IV)} {pos : Pos} (ha : PE X a (tL C X.K W f)) (hb : PE X b (tL C X.K W g)) : PE X (.BinOp a .Add b pos) (tL C X.K W (lCat f g)) :=
  pe_weak (pe_op op_cat ha hb) fun σ H Q ⟨m, env, h, er, sr, p⟩ => ⟨m, env, h, er, sr, tg_run p fun m1 H1 xs h1 u g1 s1 r1 p1 => ⟨m1, env, h1, er.mono g1, s1, tg_run p1 fun m2 H2 ys h2 v g2 s2 r2 p2 => by
    obtain ⟨q, vs, rfl, n, _, hq, rr⟩ := r1
    obtain ⟨q', ws, rfl, n', _, hq', rr'⟩ := r2
    split at p2
    · rename_i hz
      exact ⟨q, q', vs, ws, rfl, rfl, g2.fr _ _ hq n, hq', by rw [← rr.length, ← rr'.length]; exact hz, fun w hw => post_lst s2 p2 (VRs.append (VRs.mono g2 _ _ rr) rr') hw⟩
    · exact p2.elim⟩⟩

/-! ### what was made within goes -/
def gcE (f : EM) : EM := fun env h => match f env h with
  | .ok v h1 => fin h.length v h1
  | r => r
theorem m_gc {e : Expr} {f : EM} (he : PE X e (tE C X.K W f)) : PE X e (tE C X.K W (gcE f)) :=
  pe_weak he fun σ H Q ⟨m, env, h, er, sr, p⟩ => ⟨m, env, h, er, sr, by
    unfold gcE at p
    cases hf : f env h with
    | ok v h1 =>
      rw [hf] at p
      rw [← sr.len] at p
      exact fun m1 H1 u g1 s1 r1 => fin_run g1 s1 r1 p
    | exc z h1 => rw [hf] at p; exact p
    | bad => rw [hf] at p; exact p⟩
def finB (n : Nat) (b : Bool) (h : IH) : R Bool := if (h.take n).all (belowO n) = true then .ok b (h.take n) else .ok b h
def gcT (f : IEnv → IH → R Bool) : IEnv → IH → R Bool := fun env h => match f env h with
  | .ok v h1 => finB h.length v h1
  | r => r
theorem m_gcT {e : Expr} {f : IEnv → IH → R Bool} (he : PT X e (tT C X.K W f)) : PT X e (tT C X.K W (gcT f)) :=
  pt_weak he fun σ H Q ⟨m, env, h, er, sr, p⟩ => ⟨m, env, h, er, sr, by
    unfold gcT at p
    cases hf : f env h with
    | ok v h1 =>
      rw [hf] at p
      rw [← sr.len] at p
      intro m1 H1 u g1 s1 r1
      change Post C X.K W σ m H rB Q (finB m.length v h1) at p
      unfold finB at p
      split at p
      · rename_i hb
        exact p m H1 u g1.back (s1.cut g1 hb) r1
      · exact p m1 H1 u g1 s1 r1
    | exc z h1 => rw [hf] at p; exact p
    | bad => rw [hf] at p; exact p⟩

/-! ### a, b, c = x, y, z -/
theorem ms_par3 {i j l : Nat} {x y z : Str} {a b c : Expr} {f : IEnv → IH → R (List IV)} {px py pz pt pos : Pos} {kt k2 pt2} (hc : X.calm = true) (hN : X.N.Nodup) (hi : X.N[i]? = some x) (hj : X.N[j]? = some y) (hl : X.N[l]? = some z) (hij : i ≠ j) (hil : i ≠ l) (hjl : j ≠ l)
    (hx : X.env.scope.names.lookup x = some .local) (hy : X.env.scope.names.lookup y = some .local) (hz : X.env.scope.names.lookup z = some .local) (ha : PA X [a, b, c] (tA C X.K W f))
    (hw : swappedStores [.Tuple [.Name x px, .Name y py, .Name z pz] kt pt] (.Tuple [a, b, c] k2 pt2) X.env = pure (some [x, y, z]))
    (hs : swapsWithSole [.Tuple [.Name x px, .Name y py, .Name z pz] kt pt] (.Tuple [a, b, c] k2 pt2) pos.line X.env = pure false) :
    PS X (.Assign [.Tuple [.Name x px, .Name y py, .Name z pz] kt pt] (.Tuple [a, b, c] k2 pt2) pos) (tS C X.K W (sPar [i, j, l] f)) :=
  ps_weak (L2.ps_par3 hc hN hi hj hl hij hil hjl hx hy hz ha hw hs) fun D σ H ⟨m, e, h, er, sr, p⟩ => ⟨m, e, h, er, sr, ts_run er p fun m1 H1 vs h1 us g1 s1 er1 r1 p1 => by
    split at p1
    · rename_i hl
      match vs, hl, r1, p1 with
      | [u, w, t], _, r1, p1 =>
        have r1 : VRs X.K m1 H1 [u, w, t] us := r1
        simp only [VRs] at r1
        obtain ⟨v1, q1, rfl, ru, v2, q2, rfl, rw', v3, q3, rfl, rt, rfl⟩ := r1
        exact ⟨v1, v2, v3, rfl, p1 m1 _ H1 Go.refl (((er1.set ru).set rw').set rt) s1⟩
    · exact p1.elim⟩
end

/-! ### a def known by its name -/
structure CalM (P : Program) (w : World) (K : PySem.W.Frag) (mg : Str → Option Value) (base : Heap) (C : Cc) (k : Nat) (x : Str) (st : Stmt) (ps : List Str) (F : FM) : Prop where
  ex : ∃ (f : Addr) (fd : FuncData), FnM P w K mg base C k f fd ps F ∧ mg x = some (.ref f) ∧ Fun K x x st f fd
theorem Fun.kw {K : PySem.W.Frag} {x qual : Str} {st : Stmt} {f : Addr} {fd : FuncData} {ps ks : List Str} {ix : List Nat} {nu : Nat} (F : Fun K x qual st f fd)
    (h : ∀ (kV doc pm : Value) (an : Option Addr) (cdv ct : Value) (us ws : List Value), us.length = nu → ws.length = ks.length → bindArgs (PySem.W.fnOf x qual (defArgs st) (defBody st) (defScope st) .none kV doc pm an cdv ct) ⟨us, ks.zip ws⟩ = pure (ps.zip (pick ix (us ++ ws)))) : KwOk K fd ps ks ix nu := by
  obtain ⟨oc, od, kV, doc, pm, an, cdv, ct, osl, rfl, lk, hcd⟩ := F.ex
  exact fun s us ws h1 h2 => .of_eq (h kV doc pm an cdv ct us ws h1 h2)
section
variable {X : Cx} {C : Cc} {W : WX}
theorem g_call {j k : Nat} {st : Stmt} {ps : List Str} {F : FM} {x : Str} {e : Expr} {es : List Expr} {p pos : Pos} {g : IEnv → IH → R (List IV)} (c : CalM X.prog X.w X.K X.mg X.base C j x st ps F) (hr : Room k X.A) (hgd : X.A.guards = some []) (tk : Takes X W)
    (hb : ∀ f fd, Fun X.K x x st f fd → Binds X.K fd ps []) (ha : PA X (e :: es) (tA C X.K W g)) (hjk : j ≤ k := by decide) (hg : Gl X x := by rfl) (hdb : (x == ("__debug__" : Str)) = false := by decide +kernel)
    (he : starEach (e :: es) X.env = (false, eval e X.env) :: starEach es X.env := by rfl) (hpl : (backTo pos (starEach es X.env)).any (·.1) = false := by rfl) : PE X (.Call (.Name x p) (e :: es) [] pos) (tE C X.K W (eC F g)) := by
  obtain ⟨f, fd, G, hm, F1⟩ := c.ex
  exact m_call G (hr.mono hjk) hgd tk hg hm F1.kp (hb f fd F1) ha hdb he hpl
theorem g_callK0 {j k : Nat} {st : Stmt} {ps ks : List Str} {ix : List Nat} {F : FM} {x : Str} {kws : List Keyword} {p pos : Pos} {g : IEnv → IH → R (List IV)} (c : CalM X.prog X.w X.K X.mg X.base C j x st ps F) (hr : Room k X.A) (hgd : X.A.guards = some []) (tk : Takes X W)
    (hb : ∀ f fd, Fun X.K x x st f fd → KwOk X.K fd ps ks ix 0) (ha : PK X kws (tA C X.K W g)) (hgl : ∀ env h xs h1, g env h = .ok xs h1 → xs.length = ks.length) (hnk : kws.length = ks.length := by rfl) (hjk : j ≤ k := by decide) (hg : Gl X x := by rfl) (hdb : (x == ("__debug__" : Str)) = false := by decide +kernel)
    (hall : (backToKw pos (keywordEach kws X.env)).all (·.1.isSome) = true := by rfl) (hks : (backToKw pos (keywordEach kws X.env)).filterMap (·.1) = ks := by rfl)
    (hpl : ((backTo pos (starEach [] X.env)).any (·.1) || (backToKw pos (keywordEach kws X.env)).any (·.1.isNone)) = false := by rfl) :
    PE X (.Call (.Name x p) [] kws pos) (tE C X.K W (eCK F ix aNil g)) := by
  obtain ⟨f, fd, G, hm, F1⟩ := c.ex
  exact m_callK0 G (hr.mono hjk) hgd tk hg hm F1.kp (hb f fd F1) ha hnk hdb hall hks hgl hpl
theorem aNil_len (env : IEnv) (h : IH) (xs : List IV) (h1 : IH) (q : aNil env h = .ok xs h1) : xs.length = 0 := by cases q; rfl
theorem aCons_len {n : Nat} {f : EM} {g : IEnv → IH → R (List IV)} (hg : ∀ env h xs h1, g env h = .ok xs h1 → xs.length = n) (env : IEnv) (h : IH) (xs : List IV) (h1 : IH) (q : aCons f g env h = .ok xs h1) : xs.length = n + 1 := by
  unfold aCons at q
  cases e1 : f env h with
  | bad => rw [e1] at q; cases q
  | exc _ _ => rw [e1] at q; cases q
  | ok x h2 =>
    rw [e1] at q
    change (g env h2).bind _ = _ at q
    cases e2 : g env h2 with
    | bad => rw [e2] at q; cases q
    | exc _ _ => rw [e2] at q; cases q
    | ok ys h3 =>
      rw [e2] at q
      change R.ok _ _ = _ at q
      cases q
      rw [List.length_cons, hg _ _ _ _ e2]
end

/-! ### the law's end -/
open PySem.Spec PyProof.Rows in
theorem law_callM {P : Program} {w : World} {K : PySem.W.Frag} {mg mb : Str → Option Value} {C : Cc} {k : Nat} {fa a : Addr} {fd : FuncData} {x : Str} {F : FM} {s₁ : Shared} {vs : List Value} {ns : List Int}
    (KX : K.In s₁.heap) (hns : s₁.heap.Ns mainGlobals mg) (hb : s₁.heap.Ns builtinsNs mb) (hbb : ∀ x : Str, x ≠ "__name__" → mb x = bootBuiltins x) (hlim : s₁.heap.NoLimit) (hg : s₁.gens = #[])
    (ha : s₁.heap.get? a = some { cls := .type "list", data := .seq vs.toArray }) (hi : IntsAre vs ns) (hl : ns.length ≤ sizeLine) (hr : Room k callerA)
    (hF : ∀ base : Heap, K.In base → base.Ns mainGlobals mg → FnM P w K mg base C k fa fd [x] F) (hbind : ∀ (s : Shared) (u : Value), BindsTo s fd ⟨[u], []⟩ [(x, u)])
    (hlaw : ∃ h', F [.scr ns] [] = .ok (.bl true) h') :
    codeAny (model P w) callerA (.call (.ref fa) ⟨[.ref a], []⟩) (fun r s' => r = .ok (.ret (.bool true)) ∧ OldK s₁.heap s'.heap ∧ s'.os = s₁.os ∧ AllBare s'.gens) s₁ := by
  have rv := vals_ints hi
  have lenV := hi.length
  have core : ∀ H : Hp, Only H → SqF K H a (ns.map V.int) → HOk P w H s₁.heap → (∀ b, H b ≠ none → b = a) → (H a ≠ none → K.lookup a = none) →
      codeAny (model P w) callerA (.call (.ref fa) ⟨[.ref a], []⟩) (fun r s' => r = .ok (.ret (.bool true)) ∧ OldK s₁.heap s'.heap ∧ s'.os = s₁.os ∧ AllBare s'.gens) s₁ := by
    intro H hO hS hok hA hK
    have base_of : ∀ {b : Addr} {o : Obj}, s₁.heap.get? b = some o → H b = none → (hidT s₁.heap H).get? b = some o := fun e n => hidT_get e n
    have noA : ∀ {b : Addr} {o : Obj} {es : Array DictEntry} {ep : Nat}, s₁.heap.get? b = some o → o.data = .dict es ep → H b = none := fun {b o es ep} e d => by
      cases q : H b with
      | none => rfl
      | some u =>
        have e' : b = a := hA b (by rw [q]; simp)
        subst e'
        rw [ha] at e; cases e
        have d' : Data.seq vs.toArray _ = Data.dict es ep := d
        cases d'
    have nsK : ∀ {b : Addr} {m : Str → Option Value}, s₁.heap.Ns b m → (hidT s₁.heap H).Ns b m := fun {b m} ⟨o, es, ep, e, d, r⟩ => ⟨o, es, ep, base_of e (noA e d), d, r⟩
    have hKb : K.In (hidT s₁.heap H) := fun b o e => base_of (KX b o e) (by
      cases q : H b with
      | none => rfl
      | some u =>
        have e' : b = a := hA b (by rw [q]; simp)
        subst e'
        rw [hK (by rw [q]; simp)] at e; cases e)
    have hM : Mod K mg (hidT s₁.heap H) := ⟨hKb, nsK hns, ⟨mb, nsK hb, hbb⟩, let ⟨mc, h1, h2⟩ := hlim; ⟨mc, nsK h1, h2⟩⟩
    have e0 : Env0 P w K mg (hidT s₁.heap H) callerA [] s₁ H := ⟨rfl, hM, fun b o e => of_hidT e, Nat.le_of_eq (hidT_size _ _), trivial, fun b hb => absurd (show b ∈ ([] : List Addr) from hb) (by simp), hok, .of_eq hg⟩
    obtain ⟨h', hlw⟩ := hlaw
    have sr : SR K [] H [] := ⟨rfl, List.nodup_nil, fun k o e => by simp at e⟩
    refine codeAny_mono ((hF _ hKb (nsK hns)).run callerA [] s₁ H ⟨[.ref a], []⟩ [.ref a] [.ref a] [] [] [.scr ns] (fun v _ => v = .bl true) (fun _ _ _ => False) hr rfl e0 (hbind s₁ (.ref a)) (.cons rfl .nil) sr ?_ ?_) fun r s' h => ?_
    · simp only [VRs, VR]
      exact ⟨.ref a, [], rfl, ⟨a, rfl, hS⟩, rfl⟩
    · rw [hlw]
      intro m1 H1 v g1 s1 r1
      simpa only [rV, VR] using r1
    cases r with
    | error e =>
      obtain ⟨_, _, _, _, _, _, _, _, _, _, _, _, z⟩ := h
      exact z.elim
    | ok fl =>
      cases fl with
      | next => exact False.elim h
      | brk => exact False.elim h
      | cont => exact False.elim h
      | ret u =>
        obtain ⟨v, H', os, bare, un, hok', r', q⟩ := h
        have q' : v = .bl true := q
        subst q'
        obtain rfl : u = Value.bool true := r'
        refine ⟨rfl, OldK.of_keep fun b o e => ?_, os, bare⟩
        cases q : H b with
        | none => exact un.keep b o e q (by intro z; exact absurd (show b ∈ ([] : List Addr) from z) (by simp)) (by simp)
        | some u =>
          rcases hO b with z | ⟨ob, xs, z⟩
          · rw [q] at z; cases z
          · have z2 := un.frzs b ob _ z
            obtain ⟨e1, _⟩ := hok b _ z
            obtain ⟨e2, _⟩ := hok' b _ z2
            rw [e] at e1; cases e1
            exact e2
  cases hk : K.lookup a with
  | some o =>
    have e := KX a o hk
    rw [ha] at e
    cases e
    refine core (fun _ => none) (fun _ => .inl rfl) (.inr (.inr ⟨_, vs.toArray, _, hk, rfl, rfl, rfl, by rw [List.size_toArray, lenV]; exact hl, by simpa using rv⟩)) (fun b u z => by have z' : (none : Option HO) = some u := z; cases z') (fun b z => absurd rfl z) fun z => absurd rfl z
  | none =>
    refine core (fun b => if b = a then some (.frz { cls := .type "list", data := .seq vs.toArray } (.lst (ns.map V.int))) else none) (fun b => ?_) (.inl ⟨{ cls := .type "list", data := .seq vs.toArray }, if_pos rfl⟩) (fun b u z => ?_) (fun b z => ?_) fun _ => hk
    · by_cases hb : b = a
      · exact .inr ⟨_, _, if_pos hb⟩
      · exact .inl (if_neg hb)
    · by_cases hb : b = a
      · have z' := (if_pos hb).symm.trans z
        cases z'
        subst hb
        exact ⟨ha, by rw [List.length_map]; exact hl, vs, _, rv, ha⟩
      · have z' := (if_neg hb).symm.trans z
        cases z'
    · by_cases hb : b = a
      · exact hb
      · exact absurd (if_neg hb) z
open PySem.Spec PyProof.Rows in
theorem walk_M {l : PySem.W.OpenLaw} {k : Nat} {q : Program} {loose : List Str} {XP : (Str → Option Value) → Heap → Prop} {YP : World → Heap → Prop} {d : DefRec} {K : Params → PySem.W.Frag} {C : World → Cc} {F : FM} {x : Str}
    (hn : l.most = some 63) (hdf : d.params.defaults = []) (hr : Room k callerA)
    (hY : ∀ (w : World) (h : Heap), YP w h → (K w.params).In h)
    (hF : ∀ (w : World) (mg : Str → Option Value) (fa : Addr) (h : Heap), (K w.params).In h → h.Ns mainGlobals mg → mg d.name = some (.ref fa) →
      ∃ (C : Cc) (fd : FuncData), (∀ (s : Shared) (u : Value), BindsTo s fd ⟨[u], []⟩ [(x, u)]) ∧
        ∀ base : Heap, (K w.params).In base → base.Ns mainGlobals mg → FnM l.prog w (K w.params) mg base C k fa fd [x] F)
    (hlaw : ∀ ns : List Int, ns.length ≤ 63 → (∀ z ∈ ns, Builtin.Int.intBits z ≤ 1048576) → ∃ h', F [.scr ns] [] = .ok (.bl true) h') :
    PySem.W.WalkO q loose XP YP l.row.toRowW d [] (fun f vs => PySem.call f vs) := by
  refine Att.attach_callB hn hdf fun w s₀ s₁ mg mb fa o pm cd doc a vs ns G Y ho hd hcd hmg hobj hints hlen hbits hg => ?_
  have KX := hY w _ Y
  obtain ⟨C, fd, hb, hF⟩ := hF w mg fa _ KX G.T.g hmg
  exact law_callM KX G.T.g G.T.b G.T.builtins G.T.nolimit hg hobj hints (Nat.le_trans hlen (by decide)) hr hF hb (hlaw ns hlen hbits)
end MM
/-! M8: rules in short -/
namespace MM
open PySem L2
theorem hu0 {A : Around} {k : Nat} (hr : Room k A) : A.units < cLine := by have := hr.un; omega
theorem hu64 {A : Around} {k : Nat} (hr : Room k A) : A.units + 64 < cLine := by have := hr.un; omega
theorem hu65 {A : Around} {k : Nat} (hr : Room k A) : A.units + 65 < cLine := by have := hr.un; omega
theorem hu80 {A : Around} {k : Nat} (hr : Room k A) : A.units + 80 < cLine := by have := hr.un; omega
def iTupV (f : EM) : IEnv → IH → R (List IV) := fun env h => (f env h).bind fun x h1 => match x with
  | .tup xs => .ok xs h1
  | _ => .bad
theorem blk_of {X : Cx} (N : List Str) (sc : Scope) {scope : Scope} (own : List (Str × Nat)) (hN : X.N = N) (hs : X.env.scope = sc) (ok : BlkOk N sc scope own) : BlkOk X.N X.env.scope scope own := by
  rw [hN, hs]
  exact ok
section
variable {X : Cx} {C : Cc} {W : WX}
theorem m_gint {x : Str} {i : Int} {pos : Pos} (hg : Gl X x) (hm : ∃ t, X.mg x = some (.int i t)) (hd : (x == ("__debug__" : Str)) = false := by decide +kernel) : PE X (.Name x pos) (tE C X.K W (eK (.int i))) := by
  obtain ⟨t, hm⟩ := hm
  exact m_k (pe_glob (v := .int i) hg hm ⟨t, rfl⟩ hd) fun _ _ => by simp only [VR]
end
end MM
/-! M9: more rules -/
namespace MM
open PySem L2
section
open PySem.Spec PyProof.Rows
variable {X : Cx}
def tTupRgN (te : L2.St → Hp → (Int → Int → Hp → Prop) → Prop) : TE := fun σ H Q => te σ H fun a b H1 => RgOk a b ∧ ∀ q ob, H1 q = none → ob.dict = none → Q (.ref q) (upd H1 q (.frz ob (.tup (rgV a b))))
theorem pe_tupRgN {e : Expr} {te : L2.St → Hp → (Int → Int → Hp → Prop) → Prop} {p pos : Pos} (hc : X.calm = true) (hg : Gl X "tuple") (hm : X.mg "tuple" = none) (he : PRg X e te) (na : starEach [e] X.env = (false, eval e X.env) :: starEach [] X.env) : PE X (.Call (.Name "tuple" p) [e] [] pos) (tTupRgN te) := by
  refine ⟨fun pins s σ H Q I h => ?_⟩
  refine Call_ (ld_blt (u := .type "tuple") I hg hm (by decide +kernel) (PyProof.Rows.callWith_type1 (args_cons (thn (he pins s σ H _ I h) fun x s1 ⟨r, a, b, t, u, v, H1, ex, hr, I1, ok, q⟩ => args_nil ?_) na) na))
  subst ex
  obtain ⟨b1, b2, b3, b4, b5⟩ := ok
  refine call_tuple_range (n := (b - a).toNat) (I1.ok.hd hc) hr (small_one b1 b2 b3 b4) (rangeSize_nat a b) b5 fun h' tk acc hk hi => ?_
  have I2 : L2.Inv X pins σ H1 { s1 with heap := h', toks := tk } := I1.kept hk
  refine ⟨.ref h'.objs.size, upd H1 h'.objs.size (.frz { cls := .type "tuple", data := .seq acc } (.tup (rgV a b))), I2.laid (t' := tk) (fun c o e => Heap.get?_push_of_some _ e) (Nat.le_refl _) ⟨Heap.get?_push_size _ rfl, ?_, acc.toList, vals_rg hi, ?_⟩, rfl, q _ _ (I2.hok.fresh (Nat.le_refl _)) rfl⟩
  · rw [rgV_length, sizeLine_eq]; omega
  · rw [Array.toArray_toList]; exact IsTup.new _ _
end
section
variable {X : Cx} {C : Cc} {W : WX}
theorem m_tupleRg {n : Expr} {p p2 pos pos2 : Pos} {f : EM} (hc : X.calm = true) (hg : Gl X "tuple") (hm : X.mg "tuple" = none) (hg2 : Gl X "range") (hm2 : X.mg "range" = none) (he : PE X n (tE C X.K W f)) (hs : starEach [n] X.env = (false, eval n X.env) :: starEach [] X.env)
    (hs2 : starEach [.Call (.Name "range" p2) [n] [] pos2] X.env = (false, eval (.Call (.Name "range" p2) [n] [] pos2) X.env) :: starEach [] X.env) :
    PE X (.Call (.Name "tuple" p) [.Call (.Name "range" p2) [n] [] pos2] [] pos) (tE C X.K W (eTuple (lRg1 f))) :=
  pe_weak (pe_tupRgN hc hg hm (prg_1 hg2 hm2 he hs) hs2) fun σ H Q ⟨m, env, h, er, sr, p⟩ => ⟨m, env, h, er, sr, by
    unfold eTuple lRg1 at p
    have p' : Post C X.K W σ m H (rV X.K) Q ((f env h).bind fun x h1 => R.bind (match x with
      | .int n => if rgOk 0 n = true then .ok (lRange 0 n) h1 else .bad
      | _ => .bad) fun xs h2 => .ok (.tup xs) h2) := by
      cases hf : f env h with
      | ok x h1 => rw [hf] at p; exact p
      | exc z h1 => rw [hf] at p; exact p
      | bad => rw [hf] at p; exact p
    exact tg_run p' fun m1 H1 x h1 u g1 s1 r1 p1 => by
      cases x <;> first | exact p1.elim | skip
      rename_i i
      simp only [rV, VR] at r1
      subst r1
      dsimp only at p1
      split at p1
      · rename_i hk
        refine ⟨i, rfl, (by unfold rgOk at hk; have hk' := of_decide_eq_true hk; exact hk'), fun q ob hq hd => post_tup s1 p1 ?_ hq hd⟩
        unfold lRange rgV
        have e1 : ((List.range (i - 0).toNat).map fun j => IV.int (0 + (j : Nat))) = ((List.range (i - 0).toNat).map fun j => (0 : Int) + (j : Nat)).map IV.int := by rw [List.map_map]; rfl
        have e2 : ((List.range (i - 0).toNat).map fun j => V.int (0 + (j : Nat))) = ((List.range (i - 0).toNat).map fun j => (0 : Int) + (j : Nat)).map V.int := by rw [List.map_map]; rfl
        rw [e1, e2]
        exact VRs.of_ints _
      · exact p1.elim⟩
end
end MM
/-! M10: tuples: index, min, max; sorted data; reverse; enumerate of a list -/
namespace MM
open PySem L2 PySem.Spec
section
variable {X : Cx} {C : Cc} {W : WX}
/-! ### list.reverse -/
def mReverse : IV → List IV → IH → R IV
  | .ref k, [], h => match h[k]? with
    | some (.lst xs) => .ok .non (h.set k (.lst xs.reverse))
    | _ => .bad
  | _, _, _ => .bad
theorem mm_reverse : MthM X C "list.reverse" mReverse := by
  refine ⟨_, MtR.or mt_reverse mt_reverse, fun W σ m H h x ys u us Q s rx ry p => ?_⟩
  unfold mReverse at p
  split at p
  · split at p
    · rename_i xs hk
      obtain ⟨a, vs, rfl, e, q, rr⟩ := lst_at s rx hk
      simp only [VRs] at ry
      subst ry
      exact .inl ⟨a, vs, rfl, rfl, q, post_set s e q rr.reverse (x := .non) (by simp only [VR]) p⟩
    · exact p.elim
  · exact p.elim

/-! ### tuple.index -/
theorem mt_tindex : MtR X "tuple.index" (fun x xs H Q => ∃ (a : Addr) (ys : List V) (y : V) (j : Nat) (z : V), x = V.ref a ∧ xs = [y] ∧ SqT X.K H a ys ∧ flatV y = true ∧ ys.all flatV = true ∧ ys[j]? = some z ∧ eqV z y = true ∧
    (∀ (m : Nat) (z' : V), m < j → ys[m]? = some z' → eqV z' y = false) ∧ Q (.int (j : Nat)) H) := by
  intro pins s σ H x xs v us Q I rx rxs h
  obtain ⟨a, ys, y, j, z, rfl, rfl, hs, fy, fys, hz, hzj, hno, q⟩ := h
  cases rx
  cases rxs with
  | cons ry rt =>
    rename_i uy ut
    cases rt
    obtain ⟨its, rv, ⟨⟨cls, dd, data, sl⟩, ho, hc, n, hd⟩, hlen⟩ := I.tuple hs
    simp only at hc hd
    subst hc hd
    obtain ⟨u, hu, ru⟩ := rv.get hz
    obtain ⟨hjl, hje⟩ := List.getElem?_eq_some_iff.mp hu
    have hvl := rv.length
    have hj : j < its.toArray.size := by simpa using hjl
    refine call_meets PySem.F.slot_tuple_index ⟨_, ho, rfl⟩ PySem.F.entry_tuple_index (PySem.F.args_tuple_index_2 _ _)
      (TI.tuple_indexAt a its.toArray n dd sl uy (eqU y) j hj ?_ ?_) ⟨ho, fun u' hu' => mem_eqAt ry fy rv fys u' (by simpa using hu'), ?_⟩
    · have e1 : its.toArray[j] = u := by simpa using hje
      rw [e1, eqU_of ru (flat_at fys hz)]
      exact hzj
    · intro m hm hmj
      have hml : m < its.length := by simpa using hm
      have hmy : m < ys.length := by omega
      have hy' : ys[m]? = some ys[m] := List.getElem?_eq_getElem hmy
      obtain ⟨u2, hu2, ru2⟩ := rv.get hy'
      obtain ⟨_, hme⟩ := List.getElem?_eq_some_iff.mp hu2
      have e1 : its.toArray[m] = u2 := by simpa using hme
      rw [e1, eqU_of ru2 (flat_at fys hy')]
      exact hno m _ hmj hy'
    · exact ⟨.int (j : Nat), H, I.tok _, ⟨_, rfl⟩, q⟩
def tBT (K : PySem.W.Frag) (r : V → List V → Hp → VK → Prop) (to : TE) (t : TA) : TE := fun σ H Q => to σ H fun x H1 => (∃ a xs, x = V.ref a ∧ SqN K H1 a xs) ∧ t σ H1 fun xs H2 => r x xs H2 Q
theorem pe_bmT {o e : Expr} {es : List Expr} {to : TE} {t : TA} {name : Str} {apos cpos : Pos} {id : String} {r : V → List V → Hp → VK → Prop} (pa : PlainAttrs "tuple") (slot : Slot "tuple" name id) (hty : typeOf (.builtin id) = pure (.type "method_descriptor")) (hm : MtR X id r) (ho : PE X o to) (ha : PA X (e :: es) t)
    (hbase : attributeBase o name X.env (eval o X.env) = eval o X.env := by rfl)
    (hfew : ((backTo cpos (starEach (e :: es) X.env)).all (fun x => !x.1) && (backToKw cpos (keywordEach [] X.env)).all (fun x => x.1.isSome)
      && decide ((e :: es).length + ([] : List Keyword).length + (if ([] : List Keyword).isEmpty then 0 else 1) < 30)) = true := by rfl)
    (hline : (apos.endLine == cpos.line) = true := by rfl) (hs : starEach (e :: es) X.env = (false, eval e X.env) :: starEach es X.env := by rfl) (hplain : (backTo cpos (starEach es X.env)).any (·.1) = false := by rfl) :
    PE X (.Call (.Attribute o name apos) (e :: es) [] cpos) (tBT X.K r to t) := by
  refine ⟨fun pins s σ H Q I h => ?_⟩
  refine wpAny_Call_method_late hbase hfew hline rfl (thn (ho.run pins s σ H _ I h) fun v s1 ⟨x, H1, I1, r1, ty, q1⟩ => ?_)
  obtain ⟨a, xs, rfl, sq⟩ := ty
  obtain ⟨ob, e1, e2, e3⟩ := sq.obj I1
  cases r1
  refine ⟨"tuple", id, pa, slot, hty, ⟨ob, e1, e2⟩, fun b e => by cases e; exact ⟨ob, e1, e3⟩, ?_⟩
  have hA := ha.run cpos pins s1 σ H1 _ I1 q1
  rw [hs] at hA ⊢
  refine PySem.Calls.callWith_builtin (by show (false || (backTo cpos (starEach es X.env)).any (·.1)) = false; rw [hplain] <;> rfl) (PySem.Calls.evalArgs_plain ?_)
  exact thn hA fun us s2 ⟨vs, H2, I2, r2, q2⟩ => hm pins s2 σ H2 (.ref a) vs _ us Q I2 rfl r2 q2
/-- t.index(x) of a tuple -/
def eTIx (f : EM) (g : IEnv → IH → R (List IV)) : EM := fun env h => (f env h).bind fun x h1 => match x with
  | .tup xs => (g env h1).bind fun ys h2 => match ys with
    | [y] => if flat y = true ∧ xs.all flat = true then match idxOf y xs with
      | some j => .ok (.int j) h2
      | none => .bad else .bad
    | _ => .bad
  | _ => .bad
theorem m_tix {obj e : Expr} {es : List Expr} {name : Str} {apos pos : Pos} {f : EM} {g : IEnv → IH → R (List IV)} (ho : PE X obj (tE C X.K W f)) (ha : PA X (e :: es) (tA C X.K W g))
    (mk : ∀ {r : V → List V → Hp → VK → Prop} {t : TA} {to : TE}, MtR X "tuple.index" r → PE X obj to → PA X (e :: es) t → PE X (.Call (.Attribute obj name apos) (e :: es) [] pos) (tBT X.K r to t)) :
    PE X (.Call (.Attribute obj name apos) (e :: es) [] pos) (tE C X.K W (eTIx f g)) := by
  refine pe_weak (mk mt_tindex ho ha) fun σ H Q ⟨m, env, h, er, sr, p⟩ => ⟨m, env, h, er, sr, tg_run p fun m1 H1 x hh u g1 s1 r1 p1 => ?_⟩
  cases x <;> first | exact p1.elim | skip
  rename_i xs
  have r2 : VR X.K m1 H1 (.tup xs) u := r1
  simp only [VR] at r2
  obtain ⟨a, vs, rfl, t, rr⟩ := r2
  refine ⟨⟨a, vs, rfl, t⟩, m1, env, hh, er.mono g1, s1, tg_run p1 fun m2 H2 ys h2' us g2 s2 r2 p2 => ?_⟩
  split at p2
  · rename_i y
    split at p2
    · rename_i hf
      split at p2
      · rename_i j hj
        obtain ⟨v, rfl, rv⟩ := one_of r2
        obtain ⟨z, h1, h2, h3⟩ := idxOf_get hj
        have rr2 := VRs.mono g2 _ _ rr
        obtain ⟨w, h4, rw'⟩ := rr2.get h1
        have fz : flat z = true := List.all_eq_true.mp hf.2 z (List.mem_of_getElem? h1)
        refine ⟨a, vs, v, j, w, rfl, rfl, (g2.tup _ _ t).sq, flat_of rv hf.1, flats_of rr2 hf.2, h4, by rw [eqF_of rw' rv fz hf.1]; exact h2, fun i w' hi hw => ?_, post_int s2 p2⟩
        have hil : i < xs.length := by
          rw [rr2.length]; exact (List.getElem?_eq_some_iff.mp hw).1
        obtain ⟨w2, h5, r5⟩ := rr2.get (List.getElem?_eq_getElem hil)
        rw [hw] at h5; cases h5
        have f5 : flat xs[i] = true := List.all_eq_true.mp hf.2 _ (List.getElem_mem hil)
        rw [eqF_of r5 rv f5 hf.1]
        exact h3 i _ hi (List.getElem?_eq_getElem hil)
      · exact p2.elim
    · exact p2.elim
  · exact p2.elim

/-! ### min, max of a tuple of ints -/
theorem dpAll_ints {K : PySem.W.Frag} {H : Hp} : ∀ ns : List Int, DpAll K H (ns.map V.int) (ns.map PyData.int)
  | [] => .nil
  | n :: ns => .cons (.int n) (dpAll_ints ns)
theorem alike_ints (ns : List Int) : PySem.W.AlikeAll (ns.map PyData.int) := by
  refine ⟨fun x hx y hy => ?_, fun x hx => ?_⟩
  · obtain ⟨a, _, rfl⟩ := List.mem_map.mp hx
    obtain ⟨b, _, rfl⟩ := List.mem_map.mp hy
    simp [PySem.W.alike]
  · obtain ⟨a, _, rfl⟩ := List.mem_map.mp hx
    intro z; cases z
theorem depth_ints : ∀ ns : List Int, PyData.depthAll (ns.map PyData.int) = 0
  | [] => rfl
  | n :: ns => by
    have ih := depth_ints ns
    simp only [List.map_cons, PyData.depthAll, PyData.depth, ih]
    rfl
theorem foldl_minE : ∀ (ns : List Int) (n : Int), ns.foldl min n = ns.foldl (fun a b => if b < a then b else a) n
  | [], _ => rfl
  | m :: ns, n => by
    rw [List.foldl_cons, List.foldl_cons, foldl_minE ns]
    congr 1
    rw [Int.min_def]
    split <;> split <;> omega
theorem foldl_maxE : ∀ (ns : List Int) (n : Int), ns.foldl max n = ns.foldl (fun a b => if b > a then b else a) n
  | [], _ => rfl
  | m :: ns, n => by
    rw [List.foldl_cons, List.foldl_cons, foldl_maxE ns]
    congr 1
    rw [Int.max_def]
    split <;> split <;> omega
theorem cr_minT (hc : X.calm = true) (hu : X.A.units + 1 < cLine) : CallR X (.builtin "min") (fun vs H Q => ∃ (a : Addr) (n : Int) (ns : List Int), vs = [V.ref a] ∧ SqT X.K H a ((n :: ns).map V.int) ∧ Q (.int (ns.foldl (fun a b => if b < a then b else a) n)) H) := by
  intro pins s σ H vs us Q I r h
  obtain ⟨a, n, ns, rfl, hs, q⟩ := h
  obtain ⟨its, rv, pt, hz⟩ := I.tuple hs
  rw [Vals.ref1 r]
  obtain ⟨as, rd⟩ := Dp.readsAll I _ _ _ (dpAll_ints (n :: ns)) rv
  refine PySem.W.min_tuple_data (vs := its.toArray) (x := .int n) (xs := ns.map .int) (I.ok.hd hc) pt rd (alike_ints (n :: ns)) (by rw [show (PyData.int n :: ns.map PyData.int) = (n :: ns).map PyData.int from rfl, depth_ints]; omega) fun i v h' tk bs hv hr hk => ?_
  rw [PySem.W.minD_ints, foldl_minE] at hr
  cases hr
  exact ⟨.int _, H, I.kept (t' := tk) hk, ⟨_, rfl⟩, q⟩
theorem cr_maxT (hc : X.calm = true) (hu : X.A.units + 1 < cLine) : CallR X (.builtin "max") (fun vs H Q => ∃ (a : Addr) (n : Int) (ns : List Int), vs = [V.ref a] ∧ SqT X.K H a ((n :: ns).map V.int) ∧ Q (.int (ns.foldl (fun a b => if b > a then b else a) n)) H) := by
  intro pins s σ H vs us Q I r h
  obtain ⟨a, n, ns, rfl, hs, q⟩ := h
  obtain ⟨its, rv, pt, hz⟩ := I.tuple hs
  rw [Vals.ref1 r]
  obtain ⟨as, rd⟩ := Dp.readsAll I _ _ _ (dpAll_ints (n :: ns)) rv
  refine PySem.W.max_tuple_data (vs := its.toArray) (x := .int n) (xs := ns.map .int) (I.ok.hd hc) pt rd (alike_ints (n :: ns)) (by rw [show (PyData.int n :: ns.map PyData.int) = (n :: ns).map PyData.int from rfl, depth_ints]; omega) fun i v h' tk bs hv hr hk => ?_
  rw [PySem.W.maxD_ints, foldl_maxE] at hr
  cases hr
  exact ⟨.int _, H, I.kept (t' := tk) hk, ⟨_, rfl⟩, q⟩
def qTV (f : EM) : IEnv → IH → R (List IV) := fun env h => (f env h).bind fun x h1 => match x with
  | .tup xs => .ok xs h1
  | _ => .bad
theorem intsT {m : List Addr} {H : Hp} {xs : List IV} {ns : List Int} {u : V} (hn : intsOf xs = some ns) (r : VR X.K m H (.tup xs) u) : ∃ a, u = .ref a ∧ SqT X.K H a (ns.map V.int) := by
  simp only [VR] at r
  obtain ⟨a, vs, rfl, t, rr⟩ := r
  rw [intsOf_map hn] at rr
  rw [VRs.ints rr] at t
  exact ⟨a, rfl, t.sq⟩
theorem m_minT {e : Expr} {p pos : Pos} {f : EM} (hu : X.A.units + 64 < cLine) (hc : X.calm = true) (hg : Gl X "min") (hm : X.mg "min" = none) (he : PE X e (tE C X.K W f)) (hs : starEach (e :: []) X.env = (false, eval e X.env) :: starEach [] X.env) (hp : (backTo pos (starEach [] X.env)).any (·.1) = false) :
    PE X (.Call (.Name "min" p) [e] [] pos) (tE C X.K W (eInts minL (qTV f))) :=
  pe_weak (pe_callB (cr_minT hc (by omega)) hg hm (by decide +kernel) (pa_cons he pa_nil hs) (by decide) (by decide) hs hp) fun σ H Q ⟨m, env, h, er, sr, p⟩ => ⟨m, env, h, er, sr, by
    unfold eInts qTV at p
    cases hf : f env h with
    | bad => rw [hf] at p; exact p.elim
    | exc z h1 => rw [hf] at p; exact p
    | ok x h1 =>
      rw [hf] at p
      intro m1 H1 u g1 s1 r1
      have p1 := Post.mono g1 p
      cases x <;> first | exact p.elim | skip
      rename_i xs
      change Post C X.K W σ m1 H1 (rV X.K) Q (match intsOf xs with
        | some ns => match minL ns with
          | some M => .ok (.int M) h1
          | none => .bad
        | none => .bad) at p1
      split at p1
      · rename_i ns hn
        obtain ⟨a, rfl, q⟩ := intsT hn r1
        cases ns with
        | nil => exact p1.elim
        | cons n ns => exact ⟨a, n, ns, rfl, q, post_int s1 p1⟩
      · exact p1.elim⟩
theorem m_maxT {e : Expr} {p pos : Pos} {f : EM} (hu : X.A.units + 64 < cLine) (hc : X.calm = true) (hg : Gl X "max") (hm : X.mg "max" = none) (he : PE X e (tE C X.K W f)) (hs : starEach (e :: []) X.env = (false, eval e X.env) :: starEach [] X.env) (hp : (backTo pos (starEach [] X.env)).any (·.1) = false) :
    PE X (.Call (.Name "max" p) [e] [] pos) (tE C X.K W (eInts maxL (qTV f))) :=
  pe_weak (pe_callB (cr_maxT hc (by omega)) hg hm (by decide +kernel) (pa_cons he pa_nil hs) (by decide) (by decide) hs hp) fun σ H Q ⟨m, env, h, er, sr, p⟩ => ⟨m, env, h, er, sr, by
    unfold eInts qTV at p
    cases hf : f env h with
    | bad => rw [hf] at p; exact p.elim
    | exc z h1 => rw [hf] at p; exact p
    | ok x h1 =>
      rw [hf] at p
      intro m1 H1 u g1 s1 r1
      have p1 := Post.mono g1 p
      cases x <;> first | exact p.elim | skip
      rename_i xs
      change Post C X.K W σ m1 H1 (rV X.K) Q (match intsOf xs with
        | some ns => match maxL ns with
          | some M => .ok (.int M) h1
          | none => .bad
        | none => .bad) at p1
      split at p1
      · rename_i ns hn
        obtain ⟨a, rfl, q⟩ := intsT hn r1
        cases ns with
        | nil => exact p1.elim
        | cons n ns => exact ⟨a, n, ns, rfl, q, post_int s1 p1⟩
      · exact p1.elim⟩
end
end MM
/-! M11: enumerate of a list, sorted data -/
namespace MM
open PySem L2 PySem.Spec PyProof.Rows
/-- a list's items with their numbers, each in a new pair -/
def ItL (K : PySem.W.Frag) (a : Addr) : It :=
  ⟨fun i H => ∃ (xs : List V) (x : V), SqL K H a xs ∧ xs[i]? = some x, fun i H v H' => ∃ T x ob, v = .ref T ∧ H T = none ∧ ob.dict = none ∧ H' = upd H T (.frz ob (.tup [.int (i : Nat), x])) ∧ ∀ xs, SqL K H a xs → xs[i]? = some x, fun i H => ∃ xs : List V, SqL K H a xs ∧ xs.length ≤ i⟩
theorem turn_enumL {P : Program} {w : World} {K : PySem.W.Frag} {elts : List Expr} {kk : Nat} {tpos : Pos} (a e it : Addr) :
    Turn P w K (.Tuple elts kk tpos) (ItL K a) [e, it] e (fun i h => (∃ old, IsEnum h e it ((i : Nat) : Int) old) ∧ h.IsListIter it a i ∧ e ≠ it) where
  mem := by simp
  obj := fun i h st b hb => by
    obtain ⟨⟨old, he⟩, ⟨o, ho, hc, hd⟩, _⟩ := st
    have e' : b = e ∨ b = it := by simpa using hb
    rcases e' with z | z
    · rw [z]; exact ⟨_, he, fun v q => nomatch q⟩
    · rw [z]; exact ⟨o, ho, fun v q => by rw [hd] at q; cases q⟩
  keep := fun i h h' st k => let ⟨⟨old, he⟩, hi, hne⟩ := st; ⟨⟨old, k e (by simp) _ he⟩, hi.at fun o q => k it (by simp) o q, hne⟩
  item := by
    intro X hP hw hK hc i pins s σ H E I hf st hg
    subst hP hw hK
    obtain ⟨⟨old, he⟩, hit, hne⟩ := st
    obtain ⟨xs, x, hq, hx⟩ := hg
    obtain ⟨its, rv, p, hz⟩ := I.list hq
    obtain ⟨u, hu, ru⟩ := rv.get hx
    have hel : e < s.heap.objs.size := Heap.lt_size he
    have hil : it < s.heap.objs.size := by obtain ⟨_, q, _⟩ := hit; exact Heap.lt_size q
    refine wpAny_pyNext_enum_item he hit p.isList (x := u) (by simpa using hu) hne fun h' ho hit' hT hsz hk => ?_
    refine ⟨_, rfl, wpAny_letOwnedTupleGo_enum (s := { s with heap := h', toks := s.toks + 1 }) ho fun h'' he' sb => ?_⟩
    have hT2 : h''.get? s.heap.objs.size = some { cls := .type "tuple", data := .seq #[.int i s.toks, u] } := (sb.2 _ (Nat.ne_of_gt hel)).trans hT
    have new : ObjOk X.prog X.w (upd H s.heap.objs.size (.frz { cls := .type "tuple", data := .seq #[.int i s.toks, u] } (.tup [.int (i : Nat), x]))) h'' s.heap.objs.size (.frz { cls := .type "tuple", data := .seq #[.int i s.toks, u] } (.tup [.int (i : Nat), x])) :=
      ⟨hT2, by show 2 ≤ sizeLine; decide, [.int i s.toks, u], .cons ⟨_, rfl⟩ (.cons ru .nil), ⟨_, hT2, rfl, _, rfl⟩⟩
    have I1 : L2.Inv X pins σ (upd H s.heap.objs.size (.frz { cls := .type "tuple", data := .seq #[.int i s.toks, u] } (.tup [.int (i : Nat), x]))) { s with heap := h'', toks := s.toks + 1 } :=
      I.turnedNew (ch := [e, it]) (fun b ob hb q => (sb.2 b (fun z => hb (by simp [z]))).trans (hk b ob (fun z => hb (by simp [z])) (fun z => hb (by simp [z])) q)) hf (Nat.le_refl _) new
    refine ⟨.ref s.heap.objs.size, _, I1, rfl, ⟨_, x, _, rfl, I.hok.fresh (Nat.le_refl _), rfl, rfl, fun ys hy => by rw [I.list_inj hy hq]; exact hx⟩, ⟨⟨u, ?_⟩, hit'.at fun o q => (sb.2 it (Ne.symm hne)).trans q, hne⟩, fun b hb => ?_⟩
    · have e1 : ((i + 1 : Nat) : Int) = (i : Int) + 1 := by omega
      rw [e1]; exact he'
    · have hb' : b < s.heap.objs.size := by
        have e' : b = e ∨ b = it := by simpa using hb
        rcases e' with z | z
        · rw [z]; exact hel
        · rw [z]; exact hil
      rw [upd_ne (Nat.ne_of_lt hb')]
      exact (hf b hb).1
  done := by
    intro X hP hw hK hc i pins s σ H E I hf st hg
    subst hP hw hK
    obtain ⟨⟨old, he⟩, hit, hne⟩ := st
    obtain ⟨xs, hq, hx⟩ := hg
    obtain ⟨its, rv, p, hz⟩ := I.list hq
    obtain ⟨f0, f1, f2, f3, f4, f5⟩ := hf it (by simp)
    have hl := rv.length
    exact wpAny_pyNext_enum_end (I.ok.hd hc) he hit p.isList (by simp; omega) fun h' eb => ⟨rfl, I.turned (t' := s.toks) (fun b o hb q => eb b o hb q) f0 f1 f3 f4 f5⟩
  self := fun A i s Q E st h => let ⟨⟨_, he⟩, _⟩ := st; wpAny_pyIter_enum he h
def iEnumB (K : PySem.W.Frag) (ta : TA) : TI := fun σ H R => ta σ H fun vs H1 => ∃ a xs, vs = [.ref a] ∧ SqL K H1 a xs ∧ R (ItL K a) H1
theorem pi_enumL {X : Cx} {e : Expr} {ta : TA} {p pos tpos : Pos} {elts : List Expr} {kk : Nat} (hg : Gl X "enumerate") (hm : X.mg "enumerate" = none) (ha : PA X [e] ta) (hs : starEach [e] X.env = [(false, eval e X.env)]) :
    PI X (.Tuple elts kk tpos) (.Call (.Name "enumerate" p) [e] [] pos) (iEnumB X.K ta) := by
  refine ⟨fun pins s σ H R I h => ?_⟩
  refine Call_ (ld_blt (u := .type "enumerate") I hg hm (by decide +kernel) (PyProof.Rows.callWith_type1 (thn (ha.run pos pins s σ H _ I h) fun us s1 ⟨vs, H1, I1, r1, q1⟩ => ?_) hs rfl))
  obtain ⟨a, xs, ex, hq, q⟩ := q1
  subst ex
  cases r1 with
  | cons r rr =>
    cases rr
    cases r
    obtain ⟨its, rv, p', hz⟩ := I1.list hq
    refine call_enumerate_list p'.isList fun h' he hit hsz hk => wpAny_pyIter_enum he ?_
    have I2 : L2.Inv X pins σ H1 { s1 with heap := h' } := I1.kept (t' := s1.toks) hk
    refine ⟨s1.heap.objs.size + 1, [s1.heap.objs.size + 1, s1.heap.objs.size], _, _, H1, rfl, I2, turn_enumL a (s1.heap.objs.size + 1) s1.heap.objs.size, ⟨⟨.none, he⟩, hit, Nat.succ_ne_self _⟩, fun b hb => ?_, q⟩
    have e' : b = s1.heap.objs.size + 1 ∨ b = s1.heap.objs.size := by simpa using hb
    have hle : s1.heap.objs.size ≤ b := by
      rcases e' with z | z
      · rw [z]; exact Nat.le_add_right _ _
      · rw [z]; exact Nat.le_refl _
    exact I1.fpOk hle (I1.hok.fresh hle)
def iEnumL (f : EM) : ItM := fun e h => (f e h).bind fun x h1 => match x with
  | .ref k => match h1[k]? with
    | some (.lst xs) => .ok (enumFrom 0 xs, stands k xs) h1
    | _ => .bad
  | _ => .bad
theorem mi_enumL {X : Cx} {C : Cc} {W : WX} {e : Expr} {f : EM} {p pos tpos : Pos} {elts : List Expr} {kk : Nat} (hg : Gl X "enumerate") (hm : X.mg "enumerate" = none) (he : PE X e (tE C X.K W f)) (hs : starEach [e] X.env = [(false, eval e X.env)]) :
    PI X (.Tuple elts kk tpos) (.Call (.Name "enumerate" p) [e] [] pos) (tIt C X.K W (iEnumL f)) :=
  ⟨fun pins s σ H R I ⟨m, env, h, er, sr, q⟩ => (pi_enumL (elts := elts) (kk := kk) (tpos := tpos) hg hm (m_aCons he m_aNil hs) hs).run pins s σ H R I (by
    refine ⟨m, env, h, er, sr, ?_⟩
    unfold aCons aNil
    have q2 : Post C X.K W σ m H (rI X.K) R ((f env h).bind fun x h1 => match x with
      | .ref k => match h1[k]? with
        | some (.lst xs) => .ok (enumFrom 0 xs, stands k xs) h1
        | _ => .bad
      | _ => .bad) := q
    cases hf : f env h with
    | bad => rw [hf] at q2; exact q2
    | exc z h1 => rw [hf] at q2; exact q2
    | ok x h1 =>
      rw [hf] at q2
      intro m1 H1 us g1 s1 r1
      have q3 := Post.mono g1 q2
      change VRs X.K m1 H1 [x] us at r1
      simp only [VRs] at r1
      obtain ⟨v1, r, rfl, rv, rfl⟩ := r1
      cases x <;> first | exact q2.elim | skip
      rename_i k
      change Post C X.K W σ m1 H1 (rI X.K) R (match h1[k]? with
        | some (.lst xs) => .ok (enumFrom 0 xs, stands k xs) h1
        | _ => .bad) at q3
      split at q3
      · rename_i xs hk
        obtain ⟨a, vs, rfl, e1, qq, rr⟩ := lst_at s1 rv hk
        refine ⟨a, vs, rfl, .of qq, Post.here q3 s1 ?_⟩
        refine ⟨fun H2 => SqL X.K H2 a vs ∨ ∃ ws, SqL X.K H2 a ws ∧ ws.length = vs.length, fun i H2 x H3 => ∃ T u ob, x = .ref T ∧ H2 T = none ∧ ob.dict = none ∧ H3 = upd H2 T (.frz ob (.tup [.int (i : Nat), u])) ∧ ∀ ws, SqL X.K H2 a ws → ws[i]? = some u, ?_, fun m2 H2 h2 g s2 hs => ?_⟩
        · dsimp only
          rw [enumFrom_len, rr.length]
          refine ⟨fun i H hi h => ?_, fun H h => ?_, fun i H x H' hi h y => y⟩
          · rcases h with h | ⟨ws, h, e⟩
            · exact ⟨vs, vs[i], h, List.getElem?_eq_getElem hi⟩
            · exact ⟨ws, ws[i]'(by rw [e]; exact hi), h, List.getElem?_eq_getElem _⟩
          · rcases h with h | ⟨ws, h, e⟩
            · exact ⟨vs, h, Nat.le_refl _⟩
            · exact ⟨ws, h, by rw [e]; exact Nat.le_refl _⟩
        · dsimp only at hs
          unfold stands at hs
          split at hs
          · rename_i ys hy
            have e2 := eqIVs_eq _ _ hs
            subst e2
            obtain ⟨a2, ws, e3, q3, r3⟩ := s2.get hy
            rw [g.pre _ _ e1] at e3; cases e3
            refine ⟨.inr ⟨ws, .of q3, by rw [← r3.length, rr.length]⟩, fun i x H3 hi0 ⟨T, u, ob, x1, x2, x3, x4, hx⟩ => ?_⟩
            subst x1; subst x4
            have hw := hx ws (.of q3)
            have hi : i < ys.length := by rw [r3.length]; exact (List.getElem?_eq_some_iff.mp hw).1
            obtain ⟨v, h5, h6⟩ := r3.get (List.getElem?_eq_getElem hi)
            rw [hw] at h5; cases h5
            refine ⟨_, enumFrom_at ys 0 i _ (List.getElem?_eq_getElem hi), Go.laid x2, s2.laid x2, VR.newTup x2 x3 ?_⟩
            simp only [VRs, VR]
            exact ⟨.int ((0 + i : Nat) : Int), [u], by simp, rfl, u, [], rfl, h6, rfl⟩
          · cases hs
      · exact q3.elim)⟩

/-! ### sorted(list of data) -/
def sortOk (ds : List PyData) : Bool := ds.all (fun d => ds.all fun d' => PySem.W.alike d d') && ds.all (fun d => match d with
  | .tuple (_ :: _) => true
  | _ => false) && decide (ds.length ≤ 2 ^ 20) && ds.all (fun d => decide (d.depth ≤ 60))
def lSortD (f : IEnv → IH → R (List IV)) : IEnv → IH → R (List IV) := fun env h => (f env h).bind fun xs h1 => match optAll (toD h1 66) xs with
  | some ds => if sortOk ds = true then .ok (((xs.zip ds).mergeSort (PySem.W.dataLe false (·.2))).map (·.1)) h1 else .bad
  | none => .bad
theorem each_zip {vs : List V} {its : List Value} (r : Vals vs its) : ∀ {ds : List PyData}, ds.length = vs.length → PySem.W.EachIs (fun v (b : V × PyData) => RelV b.1 v) its (vs.zip ds) := by
  induction r with
  | nil => intro ds h; simp; exact .nil
  | cons r t ih =>
    intro ds h
    cases ds with
    | nil => simp at h
    | cons d ds => exact .cons r (ih (by simpa using h))
theorem each_vals {out : List Value} {L : List (V × PyData)} (e : PySem.W.EachIs (fun v (b : V × PyData) => RelV b.1 v) out L) : Vals (L.map (·.1)) out := by
  induction e with
  | nil => exact .nil
  | cons r t ih => exact .cons r ih
theorem each_reads {h : Heap} : ∀ {its : List Value} {ds : List PyData} {as : List Addr} {vs : List V}, ReadsAll h its ds as → vs.length = ds.length → PySem.W.EachIs (fun v (b : V × PyData) => ∃ as, Reads h v b.2 as) its (vs.zip ds)
  | _, _, _, vs, .nil, _ => by simp; exact .nil
  | _, _, _, [], .cons _ _, h => by simp at h
  | _, _, _, v :: vs, .cons r rs, h => .cons ⟨_, r⟩ (each_reads rs (by simpa using h))
theorem zip_snd {α β : Type} : ∀ {as : List α} {bs : List β}, as.length = bs.length → (as.zip bs).map (·.2) = bs
  | [], [], _ => rfl
  | a :: as, b :: bs, h => by rw [List.zip_cons_cons, List.map_cons, zip_snd (by simpa using h)]
  | [], _ :: _, h => by simp at h
  | _ :: _, [], h => by simp at h
theorem dpAll_len {K : PySem.W.Frag} {H : Hp} : ∀ {vs : List V} {ds : List PyData}, DpAll K H vs ds → vs.length = ds.length
  | _, _, .nil => rfl
  | _, _, .cons _ t => by rw [List.length_cons, List.length_cons, dpAll_len t]
theorem cr_sortedD {X : Cx} (hu : X.A.units + 64 < cLine) : CallR X (.builtin "sorted") (fun vs H Q => ∃ (a : Addr) (xs : List V) (ds : List PyData), vs = [V.ref a] ∧ SqL X.K H a xs ∧ DpAll X.K H xs ds ∧ sortOk ds = true ∧
    ∀ p, H p = none → Q (.ref p) (upd H p (.lst (((xs.zip ds).mergeSort (PySem.W.dataLe false (·.2))).map (·.1))))) := by
  intro pins s σ H vs us Q I r h
  obtain ⟨a, xs, ds, rfl, hs, hd, ok, q⟩ := h
  obtain ⟨its, rv, pl, hz⟩ := I.list hs
  rw [Vals.ref1 r]
  obtain ⟨as, rd⟩ := Dp.readsAll I _ _ _ hd rv
  have hl := dpAll_len hd
  have hm := zip_snd hl
  unfold sortOk at ok
  simp only [Bool.and_eq_true, List.all_eq_true, decide_eq_true_eq] at ok
  obtain ⟨⟨⟨o1, o2⟩, o3⟩, o4⟩ := ok
  have hlz : (xs.zip ds).length = xs.length := by rw [List.length_zip, ← hl, Nat.min_self]
  refine PySem.W.sorted_data (vs := its) (bs := xs.zip ds) (enc := (·.2)) (R := fun v b => RelV b.1 v) pl.isList (each_zip rv hl.symm) (each_reads rd hl) (by rw [hm]; exact o1) (by
      rw [hm]
      refine .inl fun d hd => ?_
      have := o2 d hd
      split at this
      · exact ⟨_, _, rfl⟩
      · cases this) (by rw [hlz]; exact hz) (fun b hb => by
      have := o4 b.2 (by rw [← hm]; exact List.mem_map.mpr ⟨b, hb, rfl⟩)
      omega) fun out ho he => ?_
  have k1 := each_vals he
  obtain ⟨ep, he'⟩ := PyProof.Rows.sortedAll_at s.heap its out.toArray
  have hlen : (((xs.zip ds).mergeSort (PySem.W.dataLe false (·.2))).map (·.1)).length ≤ sizeLine := by
    rw [List.length_map, (List.mergeSort_perm _ _).length_eq, hlz]
    exact hz
  exact ⟨.ref _, upd H (s.heap.objs.size + 1) (.lst _), I.laid (t' := s.toks) (fun _ _ => PyProof.Rows.sortedAll_old) (Nat.le_succ _) ⟨hlen, out, ep, k1, he'⟩, rfl, q _ (I.hok.fresh (Nat.le_succ _))⟩
theorem dpAll_of {K : PySem.W.Frag} {m : List Addr} {H : Hp} {h : IH} (s : SR K m H h) {n : Nat} : ∀ {xs : List IV} {vs : List V} {ds : List PyData}, VRs K m H xs vs → optAll (toD h n) xs = some ds → DpAll K H vs ds
  | [], vs, ds, r, e => by
    simp only [VRs] at r
    subst r
    cases e
    exact .nil
  | x :: xs, vs, ds, r, e => by
    simp only [VRs] at r
    obtain ⟨v, q, rfl, r1, r2⟩ := r
    obtain ⟨y, ys, e1, e2, rfl⟩ := optAll_cons e
    exact .cons (toD_dp s n x v y r1 e1) (dpAll_of s r2 e2)
theorem vrs_all {K : PySem.W.Frag} {m : List Addr} {H : Hp} : ∀ (T : List (IV × V × PyData)), (∀ t ∈ T, VR K m H t.1 t.2.1) → VRs K m H (T.map (·.1)) (T.map (·.2.1))
  | [], _ => by simp only [List.map_nil, VRs]
  | t :: T, h => by
    simp only [List.map_cons, VRs]
    exact ⟨_, _, rfl, h t (List.mem_cons_self ..), vrs_all T fun u hu => h u (List.mem_cons_of_mem _ hu)⟩
theorem zip3 {K : PySem.W.Frag} {m : List Addr} {H : Hp} : ∀ {xs : List IV} {vs : List V} {ds : List PyData}, VRs K m H xs vs → ds.length = xs.length → ∃ T : List (IV × V × PyData), T.map (fun t => (t.1, t.2.2)) = xs.zip ds ∧ T.map (fun t => (t.2.1, t.2.2)) = vs.zip ds ∧ ∀ t ∈ T, VR K m H t.1 t.2.1
  | [], vs, ds, r, e => by
    simp only [VRs] at r
    subst r
    exact ⟨[], by simp, by simp, by simp⟩
  | x :: xs, vs, [], r, e => by simp at e
  | x :: xs, vs, d :: ds, r, e => by
    simp only [VRs] at r
    obtain ⟨v, q, rfl, r1, r2⟩ := r
    obtain ⟨T, t1, t2, t3⟩ := zip3 r2 (ds := ds) (by simpa using e)
    refine ⟨(x, v, d) :: T, by rw [List.map_cons, t1]; rfl, by rw [List.map_cons, t2]; rfl, fun t ht => ?_⟩
    rcases List.mem_cons.mp ht with e | ht
    · rw [e]; exact r1
    · exact t3 t ht
theorem sort_rel {K : PySem.W.Frag} {m : List Addr} {H : Hp} {xs : List IV} {vs : List V} {ds : List PyData} (rr : VRs K m H xs vs) (hl : ds.length = xs.length) :
    VRs K m H (((xs.zip ds).mergeSort (PySem.W.dataLe false (·.2))).map (·.1)) (((vs.zip ds).mergeSort (PySem.W.dataLe false (·.2))).map (·.1)) := by
  obtain ⟨T, t1, t2, t3⟩ := zip3 rr hl
  have a1 := List.map_mergeSort (r := PySem.W.dataLe false (fun t : IV × V × PyData => t.2.2)) (s := PySem.W.dataLe false (fun t : IV × PyData => t.2)) (f := fun t : IV × V × PyData => (t.1, t.2.2)) (l := T) (fun _ _ _ _ => rfl)
  have a2 := List.map_mergeSort (r := PySem.W.dataLe false (fun t : IV × V × PyData => t.2.2)) (s := PySem.W.dataLe false (fun t : V × PyData => t.2)) (f := fun t : IV × V × PyData => (t.2.1, t.2.2)) (l := T) (fun _ _ _ _ => rfl)
  rw [t1] at a1
  rw [t2] at a2
  rw [← a1, ← a2, List.map_map, List.map_map]
  exact vrs_all _ fun t ht => t3 t ((List.mergeSort_perm T _).mem_iff.mp ht)
theorem optAll_len {α β : Type} {f : α → Option β} : ∀ {xs : List α} {ys : List β}, optAll f xs = some ys → ys.length = xs.length
  | [], ys, e => by cases e; rfl
  | x :: xs, ys, e => by
    obtain ⟨y, zs, e1, e2, rfl⟩ := optAll_cons e
    rw [List.length_cons, List.length_cons, optAll_len e2]
theorem m_sortD {X : Cx} {C : Cc} {W : WX} {e : Expr} {p pos : Pos} {f : IEnv → IH → R (List IV)} (hu : X.A.units + 64 < cLine) (hg : Gl X "sorted") (hm : X.mg "sorted" = none) (he : PE X e (tSl C X.K W f)) (hs : starEach (e :: []) X.env = (false, eval e X.env) :: starEach [] X.env) (hp : (backTo pos (starEach [] X.env)).any (·.1) = false) :
    PE X (.Call (.Name "sorted" p) [e] [] pos) (tL C X.K W (lSortD f)) :=
  pe_weak (pe_callB (cr_sortedD hu) hg hm (by decide +kernel) (pa_cons he pa_nil hs) (by decide) (by decide) hs hp) fun σ H Q t => one_l (fun m H h xs a vs Q s q rr p => by
    split at p
    · rename_i ds hd
      split at p
      · rename_i ok
        exact ⟨a, vs, ds, rfl, q, dpAll_of s rr hd, ok, fun l hl => post_lst s p (sort_rel rr (optAll_len hd)) hl⟩
      · exact p.elim
    · exact p.elim) t
theorem blk_of2 {X : Cx} {s : Shared} {H : Hp} {sc0 scope : Scope} {cl : List (Str × Addr)} {D : Addr} {fp : List Addr} (N : List Str) (own : List (Str × Nat)) (hN : X.N = N) (ok : BlkOk N sc0 scope own) :
    BlkOk (X.blk s H sc0 (compEnvC sc0 cl D X.env) fp).N (X.blk s H sc0 (compEnvC sc0 cl D X.env) fp).env.scope scope own := by
  rw [show (X.blk s H sc0 (compEnvC sc0 cl D X.env) fp).N = N from hN]
  refine ⟨ok.kind, ok.uniq, ok.ix, fun y hy hf => ?_, ok.own⟩
  have key : ∀ (names : List (Str × NameKind)) (x : Str), names.lookup x = some .cell ∨ names.lookup x = some .free →
      (names.map fun (n, k) => if (k == NameKind.free && X.env.scope.kind == .function && X.env.kindOf n == some .cell) then (n, NameKind.cell) else (n, k)).lookup x = some .cell ∨
      (names.map fun (n, k) => if (k == NameKind.free && X.env.scope.kind == .function && X.env.kindOf n == some .cell) then (n, NameKind.cell) else (n, k)).lookup x = some .free := by
    intro names x h
    induction names with
    | nil => rcases h with h | h <;> cases h
    | cons p r ih =>
      obtain ⟨n, k⟩ := p
      rw [List.map_cons]
      by_cases e : (x == n) = true
      · rw [List.lookup_cons, e] at h
        dsimp only at h
        dsimp only
        split
        · rw [List.lookup_cons, e]
          exact .inl rfl
        · rw [List.lookup_cons, e]
          exact h
      · have e' : (x == n) = false := by simpa using e
        rw [List.lookup_cons, e'] at h
        dsimp only at h
        dsimp only
        split
        · rw [List.lookup_cons, e']
          exact ih h
        · rw [List.lookup_cons, e']
          exact ih h
  exact key sc0.names y.1 (ok.free y hy hf)
end MM
/-! M12: gcd, list += list, list + list of values -/
namespace MM
open PySem L2 PySem.Spec PyProof.Rows
section
variable {prog : Program} {w : World} {A : Around} {E : Value → Shared → Prop} {s : Shared}
theorem iadd_list {l b : Addr} {items items2 : Array Value} {n n2 : Nat} {Q : Value → Shared → Prop} (hl : s.heap.get? l = some { cls := .type "list", data := .seq items n }) (hb : s.heap.get? b = some { cls := .type "list", data := .seq items2 n2 })
    (hlong : ¬ (!items.isEmpty && Builtin.List.listTooLong (items.size + items2.size)) = true) (h1 : items.size ≤ sizeLine) (h2 : items.size + items2.size ≤ sizeLine + 1)
    (h : Q (.ref l) { s with heap := s.heap.update l (Obj.mapSeq fun x => x ++ items2) }) : wpAny (model prog w) A (inplaceOp .Add (.ref l) (.ref b)) Q E s := by
  have ha : s.TypeIs (.ref l) "list" := ⟨_, hl, rfl⟩
  have hbt : s.TypeIs (.ref b) "list" := ⟨_, hb, rfl⟩
  unfold inplaceOp
  refine wpAny_holding ?_
  have hfi : fillsInplaceSlot (.type "list") "add" (Operator.Add == .Add) = pure false := by
    unfold fillsInplaceSlot
    show (typeLookup (.type "list") (dunderI "add") >>= fun fi => pure (fi.isSome && !isSeqSlot fi)) = pure false
    rw [F.slot_list_iadd.lookup]
    rfl
  have hsi : seqSlot? (.type "list") (dunderI "add") = pure (some (.builtin "list.__iadd__")) := PySem.seqSlot_of F.slot_list_iadd.lookup (by decide +kernel)
  refine wpAny_bind (wpAny_typeOf ha (wpAny_bind (wpAny_of_eq hfi ?_)))
  show wpAny _ A (if false = true then _ else _) Q E s
  rw [if_neg Bool.false_ne_true]
  refine wpAny_bind (wpAny_binaryOp1_none (nm := "add") ha hbt PySem.noFill_list_add ?_)
  refine wpAny_bind (wpAny_of_eq hsi ?_)
  exact wpAny_bind (wpAny_rule (call_meets F.slot_list_iadd ha F.entry_list_iadd (F.args_list_iadd_2 _ _) (AutoSeq1.list___iadd___list_list_0 l items n b items2 n2 hlong h1 h2) ⟨hl, hb, h⟩))
end
section
variable {X : Cx} {C : Cc} {W : WX}
/-- xs += ys, lists of the small heap -/
def bExt : IV → IV → IH → R IV
  | .ref k, .ref l, h => match h[k]?, h[l]? with
    | some (.lst xs), some (.lst ys) => if xs.length + ys.length ≤ sizeLine then .ok (.ref k) (h.set k (.lst (xs ++ ys))) else .bad
    | _, _ => .bad
  | _, _, _ => .bad
theorem iop_ext : OpR X (inplaceOp .Add) (fun x y H Q => ∃ l b xs zs, x = .ref l ∧ y = .ref b ∧ H l = some (.lst xs) ∧ H b = some (.lst zs) ∧ xs.length + zs.length ≤ sizeLine ∧ Q (.ref l) (upd H l (.lst (xs ++ zs)))) := by
  intro pins s σ H x y v u Q I rx ry h
  obtain ⟨l, b, xs, zs, rfl, rfl, hH, hB, hz, q⟩ := h
  cases rx
  cases ry
  obtain ⟨z, its, n, r, hl, e⟩ := I.lstM hH
  obtain ⟨z2, its2, n2, r2, hl2, e2⟩ := I.lstM hB
  have hsz : its.toArray.size + its2.toArray.size ≤ sizeLine := by rw [List.size_toArray, List.size_toArray]; omega
  have hlong : ¬ (!its.toArray.isEmpty && Builtin.List.listTooLong (its.toArray.size + its2.toArray.size)) = true := by
    rw [notLongL hsz, Bool.and_false]
    exact Bool.false_ne_true
  refine iadd_list e e2 hlong (by rw [List.size_toArray]; omega) (by omega) ?_
  refine ⟨.ref l, _, I.lset (its' := its ++ its2) (t' := s.toks) hH e (by simp) (r.append r2) ?_, rfl, q⟩
  rw [List.length_append]
  omega
theorem im_ext : IpM X C .Add bExt := ip_of iop_ext fun W σ m H h x y u v Q s rx ry p => by
  unfold bExt at p
  split at p
  · split at p
    · rename_i k l xs ys h1 h2
      split at p
      · rename_i hz
        obtain ⟨a, vs, rfl, e, q, rr⟩ := lst_at s rx h1
        obtain ⟨b, ws, rfl, e2, q2, rr2⟩ := lst_at s ry h2
        refine ⟨a, b, vs, ws, rfl, rfl, q, q2, by rw [← rr.length, ← rr2.length]; exact hz, post_set s e q (VRs.append rr rr2) (x := .ref _) ?_ p⟩
        simp only [VR]
        exact ⟨a, e, rfl⟩
      · exact p.elim
    · exact p.elim
  · exact p.elim
/-! ### gcd -/
def bGcd : IV → IV → IH → R IV
  | .int i, .int j, h => .ok (.int ((Nat.gcd i.natAbs j.natAbs : Nat) : Int)) h
  | _, _, _ => .bad
theorem m_gcd {e e2' : Expr} {p pos : Pos} {f g : EM} (hg : Gl X "gcd") (hm : X.mg "gcd" = some (.builtin "math.gcd")) (he : PE X e (tE C X.K W f)) (he2 : PE X e2' (tE C X.K W g)) (hs : starEach (e :: [e2']) X.env = (false, eval e X.env) :: starEach [e2'] X.env)
    (hs2 : starEach (e2' :: []) X.env = (false, eval e2' X.env) :: starEach [] X.env) (hp : (backTo pos (starEach [e2'] X.env)).any (·.1) = false) : PE X (.Call (.Name "gcd" p) [e, e2'] [] pos) (tE C X.K W (e2 bGcd f g)) :=
  pe_weak (pe_callBfun cr_gcd hg hm (pa_cons he (pa_cons he2 pa_nil hs2) hs) (by decide) hs hp) fun σ H Q t => two_v (fun m H h x y u v Q s r1 r2 p => by
    unfold bGcd at p
    split at p
    · simp only [rV, VR] at r1 r2
      subst r1; subst r2
      exact ⟨_, _, rfl, post_int s p⟩
    · exact p.elim) t
end
end MM
/-! P1: what the combinators compute, in plain Lean -/
namespace MM
open PySem L2

/-! ### wp of plain functions -/
/-- it answers, and P holds of the answer (a structure: no unfolding runs the code) -/
structure okR {α : Type} (r : R α) (P : α → IH → Prop) : Prop where
  ex : ∃ a h, r = .ok a h ∧ P a h
structure wpS (r : RS) (N : IEnv → IH → Prop) (T : IV → IH → Prop) : Prop where
  ex : (∃ e h, r = .nx e h ∧ N e h) ∨ (∃ v h, r = .rt v h ∧ T v h)
theorem okR.get {α : Type} {r : R α} {P : α → IH → Prop} (q : okR r P) : ∃ a h, r = .ok a h ∧ P a h := q.ex
theorem okR.of {α : Type} {r : R α} {P : α → IH → Prop} {a : α} {h : IH} (e : r = .ok a h) (p : P a h) : okR r P := ⟨a, h, e, p⟩
theorem okR.here {α : Type} {P : α → IH → Prop} {a : α} {h : IH} (p : P a h) : okR (.ok a h) P := ⟨a, h, rfl, p⟩
theorem okR_ok {α : Type} {P : α → IH → Prop} {a : α} {h : IH} : okR (.ok a h) P ↔ P a h := ⟨fun ⟨_, _, e, p⟩ => by cases e; exact p, fun p => .here p⟩
theorem wpS.nx {N : IEnv → IH → Prop} {T : IV → IH → Prop} {e : IEnv} {h : IH} (p : N e h) : wpS (.nx e h) N T := ⟨.inl ⟨e, h, rfl, p⟩⟩
theorem wpS.rt {N : IEnv → IH → Prop} {T : IV → IH → Prop} {v : IV} {h : IH} (p : T v h) : wpS (.rt v h) N T := ⟨.inr ⟨v, h, rfl, p⟩⟩
theorem wpS_nx {N : IEnv → IH → Prop} {T : IV → IH → Prop} {e : IEnv} {h : IH} : wpS (.nx e h) N T ↔ N e h := by
  refine ⟨fun ⟨q⟩ => ?_, fun p => wpS.nx p⟩
  rcases q with ⟨_, _, e, p⟩ | ⟨_, _, e, p⟩
  · cases e; exact p
  · cases e
theorem wpS_rt {N : IEnv → IH → Prop} {T : IV → IH → Prop} {v : IV} {h : IH} : wpS (.rt v h) N T ↔ T v h := by
  refine ⟨fun ⟨q⟩ => ?_, fun p => wpS.rt p⟩
  rcases q with ⟨_, _, e, p⟩ | ⟨_, _, e, p⟩
  · cases e
  · cases e; exact p
theorem okR.mono {α : Type} {r : R α} {P P' : α → IH → Prop} (q : okR r P) (hi : ∀ a h, P a h → P' a h) : okR r P' := let ⟨a, h, e, p⟩ := q.ex; ⟨a, h, e, hi _ _ p⟩
theorem okR.bind {α β : Type} {r : R α} {f : α → IH → R β} {P : β → IH → Prop} (q : okR r fun a h => okR (f a h) P) : okR (r.bind f) P := by
  obtain ⟨a, h, e, p⟩ := q.ex
  rw [e]
  exact p
theorem wpS.mono {r : RS} {N N' : IEnv → IH → Prop} {T T' : IV → IH → Prop} (q : wpS r N T) (h1 : ∀ e h, N e h → N' e h) (h2 : ∀ v h, T v h → T' v h) : wpS r N' T' := ⟨q.ex.imp (fun ⟨e, h, e1, p⟩ => ⟨e, h, e1, h1 _ _ p⟩) (fun ⟨e, h, e1, p⟩ => ⟨e, h, e1, h2 _ _ p⟩)⟩
theorem w_seq {f g : SM} {e : IEnv} {h : IH} {N : IEnv → IH → Prop} {T : IV → IH → Prop} (q : wpS (f e h) (fun e1 h1 => wpS (g e1 h1) N T) T) : wpS (sSeq f g e h) N T := by
  unfold sSeq
  rcases q.ex with ⟨e1, h1, eq, p⟩ | ⟨e1, h1, eq, p⟩
  · rw [eq]; exact p
  · rw [eq]; exact .rt p
theorem w_of {α : Type} {e : IEnv} {r : R α} {k : α → IH → RS} {N : IEnv → IH → Prop} {T : IV → IH → Prop} (q : okR r fun a h => wpS (k a h) N T) : wpS (RS.of e r k) N T := by
  obtain ⟨a, h, eq, p⟩ := q.ex
  rw [eq]; exact p
theorem w_asg {f : EM} {g : GM} {e : IEnv} {h : IH} {N : IEnv → IH → Prop} {T : IV → IH → Prop} (q : okR (f e h) fun v h1 => ∃ e2 h2, g v e h1 = some (e2, h2) ∧ N e2 h2) : wpS (sAsg f g e h) N T :=
  w_of (q.mono fun v h1 ⟨e2, h2, e3, n⟩ => by rw [e3]; exact .nx n)
theorem w_ret {f : EM} {e : IEnv} {h : IH} {N : IEnv → IH → Prop} {T : IV → IH → Prop} (q : okR (f e h) T) : wpS (sRet f e h) N T := w_of (q.mono fun _ _ p => .rt p)
theorem w_expr {f : EM} {e : IEnv} {h : IH} {N : IEnv → IH → Prop} {T : IV → IH → Prop} (q : okR (f e h) fun _ h1 => N e h1) : wpS (sExpr f e h) N T := w_of (q.mono fun _ _ p => .nx p)
theorem w_if {c : IEnv → IH → R Bool} {f g : SM} {e : IEnv} {h : IH} {N : IEnv → IH → Prop} {T : IV → IH → Prop} (q : okR (c e h) fun b h1 => wpS (if b = true then f e h1 else g e h1) N T) : wpS (sIf c f g e h) N T := w_of q
theorem w_par {is : List Nat} {f : IEnv → IH → R (List IV)} {e : IEnv} {h : IH} {N : IEnv → IH → Prop} {T : IV → IH → Prop} (q : okR (f e h) fun vs h1 => vs.length = is.length ∧ N ((is.zip vs).foldl (fun e p => e.set p.1 (some p.2)) e) h1) : wpS (sPar is f e h) N T :=
  w_of (q.mono fun vs h1 ⟨e3, n⟩ => by rw [if_pos e3]; exact .nx n)
theorem w_nil {e : IEnv} {h : IH} {N : IEnv → IH → Prop} {T : IV → IH → Prop} (q : N e h) : wpS (sNil e h) N T := .nx q
/-- a for whose list stays as it is -/
theorem w_forM {G : IH → Bool} {g : GM} {b : SM} {T : IV → IH → Prop} (I : Nat → IEnv → IH → Prop) : ∀ (xs : List IV) (j : Nat) (e : IEnv) (h : IH), I j e h → (∀ i e h, j ≤ i → i ≤ j + xs.length → I i e h → G h = true) →
    (∀ i (hi : i < xs.length) e h, I (j + i) e h → ∃ e1 h1, g xs[i] e h = some (e1, h1) ∧ wpS (b e1 h1) (fun e2 h2 => I (j + i + 1) e2 h2) T) → wpS (forM G g b xs e h) (fun e2 h2 => I (j + xs.length) e2 h2) T
  | [], j, e, h, i0, hG, st => by
    unfold forM
    rw [if_pos (hG j e h (Nat.le_refl _) (by simp) i0)]
    exact .nx i0
  | x :: xs, j, e, h, i0, hG, st => by
    unfold forM
    rw [if_pos (hG j e h (Nat.le_refl _) (by simp) i0)]
    obtain ⟨e1, h1, e3, q⟩ := st 0 (by simp) e h i0
    rw [List.getElem_cons_zero] at e3
    rw [e3]
    dsimp only
    rcases q.ex with ⟨e2, h2, hb, q⟩ | ⟨e2, h2, hb, q⟩
    · rw [hb]
      have r := w_forM (G := G) (g := g) (b := b) (T := T) I xs (j + 1) e2 h2 q (fun i e h a1 a2 => hG i e h (by omega) (by simp; omega)) fun i hi e h ii => by
        have z := st (i + 1) (by simp; omega) e h (by rw [show j + (i + 1) = j + 1 + i by omega]; exact ii)
        rw [List.getElem_cons_succ] at z
        rw [show j + 1 + i + 1 = j + (i + 1) + 1 by omega]
        exact z
      rw [List.length_cons, show j + (xs.length + 1) = j + 1 + xs.length by omega]
      exact r
    · rw [hb]
      exact .rt q
theorem w_for {it : ItM} {g : GM} {b : SM} {e : IEnv} {h h1 : IH} {xs : List IV} {G : IH → Bool} {N : IEnv → IH → Prop} {T : IV → IH → Prop} (I : Nat → IEnv → IH → Prop) (hit : it e h = .ok (xs, G) h1) (i0 : I 0 e h1) (hG : ∀ i e h, i ≤ xs.length → I i e h → G h = true)
    (st : ∀ i (hi : i < xs.length) e h, I i e h → ∃ e1 h1, g xs[i] e h = some (e1, h1) ∧ wpS (b e1 h1) (fun e2 h2 => I (i + 1) e2 h2) T) (hN : ∀ e h, I xs.length e h → N e h) : wpS (sFor it g b e h) N T := by
  unfold sFor
  rw [hit]
  refine (w_forM (G := G) (g := g) (b := b) (T := T) I xs 0 e h1 i0 (fun i e h _ a => hG i e h (by omega)) fun i hi e h ii => ?_).mono (fun e h q => hN e h (by rw [Nat.zero_add] at q; exact q)) fun _ _ q => q
  have z := st i hi e h (by rw [Nat.zero_add] at ii; exact ii)
  rw [Nat.zero_add]
  exact z
theorem w_whileM {c : IEnv → IH → R Bool} {b : SM} {T : IV → IH → Prop} {N : IEnv → IH → Prop} (I : Nat → IEnv → IH → Prop) (st : ∀ n e h, I n e h → okR (c e h) fun t h1 => if t = true then 0 < n ∧ wpS (b e h1) (fun e2 h2 => ∃ m, m < n ∧ I m e2 h2) T else N e h1) :
    ∀ (k n : Nat) (e : IEnv) (h : IH), n < k → I n e h → wpS (whileM c b k e h) N T
  | 0, n, e, h, hk, i0 => absurd hk (Nat.not_lt_zero _)
  | k + 1, n, e, h, hk, i0 => by
    unfold whileM
    refine w_of ((st n e h i0).mono fun t h1 q => ?_)
    cases t with
    | true =>
      rw [if_pos rfl] at q
      rw [if_pos rfl]
      obtain ⟨hn, q⟩ := q
      rcases q.ex with ⟨e2, h2, hb, m, hm, ii⟩ | ⟨e2, h2, hb, q⟩
      · rw [hb]
        exact w_whileM I st k m e2 h2 (by omega) ii
      · rw [hb]
        exact .rt q
    | false =>
      rw [if_neg (by decide)] at q
      rw [if_neg (by decide)]
      exact .nx q
theorem w_while {n : IEnv → IH → Nat} {c : IEnv → IH → R Bool} {b : SM} {e : IEnv} {h : IH} {T : IV → IH → Prop} {N : IEnv → IH → Prop} (I : Nat → IEnv → IH → Prop) (m : Nat) (hm : m < n e h) (i0 : I m e h)
    (st : ∀ n e h, I n e h → okR (c e h) fun t h1 => if t = true then 0 < n ∧ wpS (b e h1) (fun e2 h2 => ∃ m, m < n ∧ I m e2 h2) T else N e h1) : wpS (sWhile n c b e h) N T := w_whileM I st _ _ _ _ hm i0

/-! ### a def -/
theorem fin_self (v : IV) (h : IH) : fin h.length v h = .ok v h := by
  unfold fin
  rw [List.take_length]
  split
  · split
    · rfl
    · split
      · rename_i k hb
        have : h[k]? = none := List.getElem?_eq_none (by
          simp only [below, decide_eq_true_eq] at hb
          omega)
        rw [this]
      · rfl
  · rfl
/-- a def that answers, with the same heap -/
theorem F_same {np n : Nat} {b : SM} {vs : List IV} {h : IH} {v : IV} (hn : vs.length = np) (q : wpS (b (vs.map some ++ List.replicate (n - vs.length) none) h) (fun _ h1 => v = .non ∧ h1 = h) fun u h1 => u = v ∧ h1 = h) : runF np n b vs h = .ok v h := by
  unfold runF
  rw [if_pos hn]
  rcases q.ex with ⟨e, h1, hb, rfl, rfl⟩ | ⟨u, h1, hb, rfl, rfl⟩
  · rw [hb]; exact fin_self _ _
  · rw [hb]; exact fin_self _ _
mutual
theorem below_le {n m : Nat} (h : n ≤ m) : ∀ x : IV, below n x = true → below m x = true
  | .ref k, q => by simp only [below, decide_eq_true_eq] at q ⊢; omega
  | .tup xs, q => by simp only [below] at q ⊢; exact belows_le h xs q
  | .non, _ => rfl
  | .bl _, _ => rfl
  | .int _, _ => rfl
  | .str _, _ => rfl
  | .scr _, _ => rfl
theorem belows_le {n m : Nat} (h : n ≤ m) : ∀ xs : List IV, belows n xs = true → belows m xs = true
  | [], _ => rfl
  | x :: xs, q => by
    simp only [belows, Bool.and_eq_true] at q ⊢
    exact ⟨below_le h x q.1, belows_le h xs q.2⟩
end
/-- nothing in the heap points anywhere -/
def FlatH (h : IH) : Prop := ∀ o ∈ h, belowO 0 o = true
theorem FlatH.take {h : IH} (f : FlatH h) (n m : Nat) : (h.take n).all (belowO m) = true := List.all_eq_true.mpr fun o ho => by
  have := f o (List.mem_of_mem_take ho)
  cases o
  exact belows_le (Nat.zero_le _) _ this
theorem FlatH.set {h : IH} (f : FlatH h) {k : Nat} {xs : List IV} (hx : belows 0 xs = true) : FlatH (h.set k (.lst xs)) := fun o ho => by
  rcases List.mem_or_eq_of_mem_set ho with q | q
  · exact f o q
  · rw [q]; exact hx
theorem FlatH.app {h : IH} (f : FlatH h) {xs : List IV} (hx : belows 0 xs = true) : FlatH (h ++ [.lst xs]) := fun o ho => by
  rcases List.mem_append.mp ho with q | q
  · exact f o q
  · rw [List.mem_singleton] at q
    rw [q]; exact hx
theorem FlatH.nil : FlatH [] := fun o ho => by cases ho
theorem FlatH.cut {h : IH} (f : FlatH h) (n : Nat) : FlatH (h.take n) := fun o ho => f o (List.mem_of_mem_take ho)
/-- a def's answer that holds nothing: what it made goes -/
theorem fin_val {v : IV} {h : IH} {n : Nat} (f : FlatH h) (hv : below 0 v = true) : fin n v h = .ok v (h.take n) := by
  unfold fin
  rw [if_pos (f.take n n), if_pos (below_le (Nat.zero_le _) v hv)]
/-- a def's answer that is a list made within -/
theorem fin_lst {k n : Nat} {h : IH} {xs : List IV} (f : FlatH h) (hk : h[k]? = some (.lst xs)) (hn : n ≤ k) : fin n (.ref k) h = .ok (.ref n) (h.take n ++ [.lst xs]) := by
  have hx : belows n xs = true := belows_le (Nat.zero_le _) xs (f _ (List.mem_of_getElem? hk))
  unfold fin
  rw [if_pos (f.take n n), if_neg (by simp only [below, decide_eq_true_eq]; omega)]
  dsimp only
  rw [hk]
  dsimp only
  rw [if_pos ⟨hn, hx⟩]
theorem F_ret {np n : Nat} {b : SM} {vs : List IV} {h : IH} {P : IV → IH → Prop} (hn : vs.length = np) (q : wpS (b (vs.map some ++ List.replicate (n - vs.length) none) h) (fun _ h1 => okR (fin h.length .non h1) P) fun u h1 => okR (fin h.length u h1) P) : okR (runF np n b vs h) P := by
  unfold runF
  rw [if_pos hn]
  rcases q.ex with ⟨e, h1, hb, q⟩ | ⟨u, h1, hb, q⟩
  · rw [hb]; exact q
  · rw [hb]; exact q

/-! ### rows of whole numbers -/
abbrev iz (xs : List Int) : List IV := xs.map .int
def rng (n : Int) : List Int := (List.range n.toNat).map fun (i : Nat) => (i : Int)
theorem rng_len (n : Int) : (rng n).length = n.toNat := by unfold rng; simp
theorem rng_get? {n : Int} {i : Nat} (h : i < n.toNat) : (rng n)[i]? = some (i : Int) := by
  unfold rng
  rw [List.getElem?_map, List.getElem?_range h]
  rfl
theorem rng_get {n : Int} {i : Nat} (h : i < (rng n).length) : (rng n)[i] = (i : Int) := by
  have a := rng_get? (n := n) (i := i) (by rw [← rng_len]; exact h)
  rw [List.getElem?_eq_getElem h] at a
  exact Option.some.inj a
theorem rng_mem {n x : Int} : x ∈ rng n ↔ 0 ≤ x ∧ x < n := by
  unfold rng
  rw [List.mem_map]
  constructor
  · rintro ⟨i, hi, rfl⟩
    rw [List.mem_range] at hi
    omega
  · rintro ⟨h1, h2⟩
    exact ⟨x.toNat, by rw [List.mem_range]; omega, by omega⟩
theorem rng_sorted (n : Int) : (rng n).Pairwise (· < ·) := by
  unfold rng
  rw [List.pairwise_map]
  exact List.pairwise_lt_range.imp fun h => by omega
theorem lRange_rng (n : Int) : lRange 0 n = iz (rng n) := by
  unfold lRange rng iz
  rw [List.map_map, Int.sub_zero]
  exact List.map_congr_left fun i _ => by simp
theorem rgOk_of {n : Int} (h1 : 0 ≤ n) (h2 : n ≤ 2 ^ 20) : rgOk 0 n = true := by
  unfold rgOk
  rw [decide_eq_true_eq]
  omega
theorem ints_below : ∀ (n : Nat) (xs : List Int), belows n (iz xs) = true
  | _, [] => rfl
  | n, x :: xs => by simp only [iz, List.map_cons, belows, below, Bool.true_and]; exact ints_below n xs
theorem below_tup (n : Nat) (xs : List Int) : below n (.tup (iz xs)) = true := by simp only [below]; exact ints_below n xs
def geti (xs : List Int) (i : Int) : Int := xs.getD i.toNat 0
theorem geti_mem {xs : List Int} {i : Int} (h1 : 0 ≤ i) (h2 : i < xs.length) : geti xs i ∈ xs := by
  unfold geti
  rw [List.getD_eq_getElem?_getD, List.getElem?_eq_getElem (by omega)]
  exact List.getElem_mem _
theorem atI_at {α : Type} {xs : List α} {i : Int} (h1 : 0 ≤ i) (h2 : i < xs.length) : atI xs i = xs[i.toNat]? := by
  unfold atI ixN
  rw [if_pos h1, if_pos h2]
  rfl
theorem ix_tup {xs : List Int} {i : Int} {h : IH} (h1 : 0 ≤ i) (h2 : i < xs.length) : bIx (.tup (iz xs)) (.int i) h = .ok (.int (geti xs i)) h := by
  have e : atI (iz xs) i = some (.int (geti xs i)) := by
    rw [atI_at h1 (by simpa using h2)]
    unfold geti
    rw [List.getElem?_map, List.getD_eq_getElem?_getD, List.getElem?_eq_getElem (by omega)]
    rfl
  unfold bIx items
  dsimp only
  rw [e]
theorem ix_ref {xs : List Int} {i : Int} {h : IH} {k : Nat} (hk : h[k]? = some (.lst (iz xs))) (h1 : 0 ≤ i) (h2 : i < xs.length) : bIx (.ref k) (.int i) h = .ok (.int (geti xs i)) h := by
  have e : atI (iz xs) i = some (.int (geti xs i)) := by
    rw [atI_at h1 (by simpa using h2)]
    unfold geti
    rw [List.getElem?_map, List.getD_eq_getElem?_getD, List.getElem?_eq_getElem (by omega)]
    rfl
  unfold bIx items
  dsimp only
  rw [hk]
  dsimp only
  rw [e]
/-- a comprehension whose steps leave the heap -/
theorem lc_pure {G : IH → Bool} {g : GM} {c : IEnv → IH → R Bool} {f : EM} {e : IEnv} {h : IH} {α β : Type} (mk : α → IV) (p : α → Bool) (v : α → β) (mv : β → IV) (hG : G h = true) : ∀ (xs : List α),
    (∀ x ∈ xs, ∃ e1, g (mk x) e h = some (e1, h) ∧ c e1 h = .ok (p x) h ∧ (p x = true → f e1 h = .ok (mv (v x)) h)) → lcM G g c f e (xs.map mk) h = .ok (((xs.filter p).map v).map mv) h
  | [], _ => by
    show (if G h = true then R.ok [] h else .bad) = _
    rw [if_pos hG]
    rfl
  | x :: xs, st => by
    obtain ⟨e1, q1, q2, q3⟩ := st x (List.mem_cons_self ..)
    have ih := lc_pure (G := G) (g := g) (c := c) (f := f) (e := e) mk p v mv hG xs fun y hy => st y (List.mem_cons_of_mem _ hy)
    rw [List.map_cons]
    unfold lcM
    rw [if_pos hG, q1]
    dsimp only
    rw [q2]
    dsimp only [R.nox, R.bind]
    cases hp : p x with
    | true =>
      rw [if_pos rfl, q3 hp]
      dsimp only [R.nox, R.bind]
      rw [ih, List.filter_cons_of_pos (by rw [hp])]
      rfl
    | false =>
      rw [if_neg (by decide), ih, List.filter_cons_of_neg (by rw [hp]; decide)]
/-- a comprehension without an if -/
theorem lc_map {G : IH → Bool} {g : GM} {f : EM} {e : IEnv} {h : IH} {α β : Type} (mk : α → IV) (v : α → β) (mv : β → IV) (hG : G h = true) (xs : List α)
    (st : ∀ x ∈ xs, ∃ e1, g (mk x) e h = some (e1, h) ∧ f e1 h = .ok (mv (v x)) h) : lcM G g tYesM f e (xs.map mk) h = .ok ((xs.map v).map mv) h := by
  have := lc_pure (G := G) (g := g) (c := tYesM) (f := f) (e := e) (h := h) mk (fun _ => true) v mv hG xs fun x hx => by
    obtain ⟨e1, q1, q2⟩ := st x hx
    exact ⟨e1, q1, rfl, fun _ => q2⟩
  rw [this, List.filter_eq_self.mpr fun _ _ => rfl]
theorem sortU_of {xs ys : List Int} (hs : ys.Pairwise (· < ·)) (hm : ∀ z, z ∈ ys ↔ z ∈ xs) : sortU xs = ys := by
  have a := (sortU_sorted xs)
  have nd1 : (sortU xs).Nodup := a.imp fun h => Int.ne_of_lt h
  have nd2 : ys.Nodup := hs.imp fun h => Int.ne_of_lt h
  exact sorted_eq (a.imp fun h => Int.le_of_lt h) (hs.imp fun h => Int.le_of_lt h) ((List.perm_ext_iff_of_nodup nd1 nd2).mpr fun z => (sortU_mem z xs).trans (hm z).symm)
theorem intsOf_ints : ∀ xs : List Int, intsOf (iz xs) = some xs
  | [] => rfl
  | x :: xs => by
    have ih := intsOf_ints xs
    unfold intsOf at ih ⊢
    simp only [iz, List.map_cons, optAll]
    rw [ih]

theorem mod_ii {i j : Int} {h : IH} (hj : 0 < j) : bMod (.int i) (.int j) h = .ok (.int (i % j)) h := if_pos hj
theorem div_ii {i j : Int} {h : IH} (hj : 0 < j) (hz : j < 2 ^ 64) : bDiv (.int i) (.int j) h = .ok (.int (i / j)) h := if_pos ⟨hj, by
  have : j.natAbs.log2 < 64 := (Nat.log2_lt (by omega)).mpr (by omega)
  omega⟩
theorem mul_ii {i j : Int} {h : IH} (h1 : -(2 ^ 64) < i) (h2 : i < 2 ^ 64) : bMul (.int i) (.int j) h = .ok (.int (i * j)) h := if_pos (.inl (.inl ⟨h1, h2⟩))
theorem pow18 (h : IH) : bPow (.int 10) (.int 18) h = .ok (.int 1000000000000000000) h := (if_pos (by decide) : (if (0 : Int) ≤ 18 ∧ (18 : Int) ≤ 1000000 ∧ (10 : Int).natAbs < 2 ^ 64 then R.ok (IV.int ((10 : Int) ^ (18 : Int).toNat)) h else .bad) = _)
theorem gsb_ref {fo fi : EM} {e : IEnv} {h : IH} {k : Nat} {j : Int} {xs : List IV} {v : IV} (h1 : fo e h = .ok (.ref k) h) (h2 : fi e h = .ok (.int j) h) (hk : h[k]? = some (.lst xs)) (hj : 0 ≤ j) (hl : j < xs.length) :
    gSb fo fi v e h = some (e, h.set k (.lst (xs.set j.toNat v))) := by
  unfold gSb
  rw [h1]
  dsimp only
  rw [h2]
  dsimp only
  rw [hk]
  dsimp only
  unfold ixN
  rw [if_pos hj, if_pos hl]

theorem ixN20 : ixN 2 0 = some 0 := rfl
theorem ixN21 : ixN 2 1 = some 1 := rfl
theorem ix_0 {h : IH} {k : Nat} {x y : IV} (hk : h[k]? = some (.lst [x, y])) : bIx (.ref k) (.int 0) h = .ok x h := by unfold bIx items; dsimp only; rw [hk]; rfl
theorem ix_1 {h : IH} {k : Nat} {x y : IV} (hk : h[k]? = some (.lst [x, y])) : bIx (.ref k) (.int 1) h = .ok y h := by unfold bIx items; dsimp only; rw [hk]; rfl

/-! ### repr -/
theorem weightAll_le {B : Nat} : ∀ {ds : List PyData}, (∀ d ∈ ds, PyData.weight d ≤ B) → PyData.weightAll ds ≤ ds.length * (B + 1)
  | [], _ => by simp [PyData.weightAll]
  | d :: ds, h => by
    have a := h d (List.mem_cons_self ..)
    have b := weightAll_le (B := B) fun x hx => h x (List.mem_cons_of_mem _ hx)
    simp only [PyData.weightAll, List.length_cons, Nat.add_mul, Nat.one_mul]
    omega
/-! data whose text is told: of numbers, truths, None, in lists and tuples -/
mutual
def okD : PyData → Bool
  | .none => true
  | .bool _ => true
  | .int i => decide (i.natAbs < 10 ^ 12)
  | .list xs => okDs xs
  | .tuple xs => okDs xs
  | .str _ => false
  | .dict _ => false
def okDs : List PyData → Bool
  | [] => true
  | x :: xs => okD x && okDs xs
end
mutual
theorem okD_all : ∀ d : PyData, okD d = true → d.canLay0 = true ∧ d.intsShort 13 = true ∧ d.showable = true
  | .none, _ => ⟨rfl, rfl, rfl⟩
  | .bool _, _ => ⟨rfl, rfl, rfl⟩
  | .int i, h => by
    simp only [okD, decide_eq_true_eq] at h
    refine ⟨rfl, by simp only [PyData.intsShort, decide_eq_true_eq]; exact PyData.shown_int_le h, ?_⟩
    simp only [PyData.showable, decide_eq_true_eq]
    by_cases h0 : i.natAbs = 0
    · rw [h0]; decide
    · have h2 : i.natAbs < 2 ^ 1920 := Nat.lt_of_lt_of_le h (by decide +kernel)
      exact (Nat.log2_lt h0).mpr h2
  | .list xs, h => by
    simp only [okD] at h
    have q := okDs_all xs h
    exact ⟨by simpa only [PyData.canLay0] using q.1, by simpa only [PyData.intsShort] using q.2.1, by simpa only [PyData.showable] using q.2.2⟩
  | .tuple xs, h => by
    simp only [okD] at h
    have q := okDs_all xs h
    exact ⟨by simpa only [PyData.canLay0] using q.1, by simpa only [PyData.intsShort] using q.2.1, by simpa only [PyData.showable] using q.2.2⟩
  | .str _, h => by simp only [okD] at h; cases h
  | .dict _, h => by simp only [okD] at h; cases h
theorem okDs_all : ∀ ds : List PyData, okDs ds = true → PyData.canLayAll0 ds = true ∧ PyData.intsShortAll 13 ds = true ∧ PyData.showableAll ds = true
  | [], _ => ⟨rfl, rfl, rfl⟩
  | x :: xs, h => by
    simp only [okDs, Bool.and_eq_true] at h
    have a := okD_all x h.1
    have b := okDs_all xs h.2
    refine ⟨?_, ?_, ?_⟩
    · simp only [PyData.canLayAll0, a.1, b.1, Bool.and_self]
    · simp only [PyData.intsShortAll, a.2.1, b.2.1, Bool.and_self]
    · simp only [PyData.showableAll, a.2.2, b.2.2, Bool.and_self]
end
structure Rp (n w : Nat) (d : PyData) : Prop where
  ok : okD d = true
  dep : d.depth ≤ n
  wt : d.weight ≤ w
theorem okDs_of : ∀ {ds : List PyData}, (∀ d ∈ ds, okD d = true) → okDs ds = true
  | [], _ => rfl
  | d :: ds, h => by
    simp only [okDs, Bool.and_eq_true]
    exact ⟨h d (List.mem_cons_self ..), okDs_of fun x hx => h x (List.mem_cons_of_mem _ hx)⟩
theorem depthAll_le {B : Nat} : ∀ {ds : List PyData}, (∀ d ∈ ds, PyData.depth d ≤ B) → PyData.depthAll ds ≤ B
  | [], _ => Nat.zero_le _
  | d :: ds, h => by
    simp only [PyData.depthAll]
    exact Nat.max_le.mpr ⟨h d (List.mem_cons_self ..), depthAll_le fun x hx => h x (List.mem_cons_of_mem _ hx)⟩
theorem Rp.int {i : Int} (h : i.natAbs < 10 ^ 12) : Rp 0 41 (.int i) := by
  refine ⟨by simp only [okD, decide_eq_true_eq]; exact h, Nat.le_refl _, ?_⟩
  simp only [PyData.weight]
  split
  · decide
  · have : i.natAbs.log2 < 40 := by
      by_cases h0 : i.natAbs = 0
      · rw [h0]; decide
      · exact (Nat.log2_lt h0).mpr (Nat.lt_of_lt_of_le h (by decide))
    omega
theorem Rp.list {n w L : Nat} {ds : List PyData} (h : ∀ d ∈ ds, Rp n w d) (hl : ds.length ≤ L) : Rp (n + 1) (L * (w + 1)) (.list ds) := by
  refine ⟨?_, ?_, ?_⟩
  · simp only [okD]; exact okDs_of fun d hd => (h d hd).ok
  · simp only [PyData.depth]; exact Nat.succ_le_succ (depthAll_le fun d hd => (h d hd).dep)
  · simp only [PyData.weight]; exact Nat.le_trans (weightAll_le fun d hd => (h d hd).wt) (Nat.mul_le_mul_right _ hl)
theorem Rp.tuple {n w L : Nat} {ds : List PyData} (h : ∀ d ∈ ds, Rp n w d) (hl : ds.length ≤ L) : Rp (n + 1) (L * (w + 1)) (.tuple ds) := by
  refine ⟨?_, ?_, ?_⟩
  · simp only [okD]; exact okDs_of fun d hd => (h d hd).ok
  · simp only [PyData.depth]; exact Nat.succ_le_succ (depthAll_le fun d hd => (h d hd).dep)
  · simp only [PyData.weight]; exact Nat.le_trans (weightAll_le fun d hd => (h d hd).wt) (Nat.mul_le_mul_right _ hl)
theorem Rp.mono {n w n' w' : Nat} {d : PyData} (r : Rp n w d) (h1 : n ≤ n') (h2 : w ≤ w') : Rp n' w' d := ⟨r.ok, Nat.le_trans r.dep h1, Nat.le_trans r.wt h2⟩
theorem Rp.rpr {n w : Nat} {d : PyData} {h : IH} (r : Rp n w d) (h1 : n ≤ 64) (h2 : w ≤ 2 ^ 20) : MM.rpr d h = .ok (.str d.shown) h := by
  have a := okD_all d r.ok
  have hd : d.depth ≤ 64 := Nat.le_trans r.dep h1
  have hw : d.weight ≤ 2 ^ 20 := Nat.le_trans r.wt h2
  have hs : SeqAt.shaped d = true := by
    unfold SeqAt.shaped
    rw [a.1, decide_eq_true hd]; rfl
  have hl : PyData.layable0 d = true := by
    unfold PyData.layable0
    rw [a.1, decide_eq_true hd, decide_eq_true hw]; rfl
  have hz : d.shown.length ≤ sizeLine := Nat.le_trans (PyProof.Rows.shown_le13 hl a.2.1) (by decide)
  unfold MM.rpr
  rw [if_pos ⟨hs, a.2.2, hz⟩]
/-- a tuple of small numbers as data -/
abbrev dtup (xs : List Int) : PyData := .tuple (xs.map .int)
theorem toD_iz (h : IH) (n : Nat) : ∀ xs : List Int, optAll (toD h (n + 1)) (iz xs) = some (xs.map PyData.int)
  | [] => rfl
  | x :: xs => by
    have ih := toD_iz h n xs
    rw [show iz (x :: xs) = IV.int x :: iz xs from rfl, optAll, ih]
    rfl
theorem toD_tup (h : IH) (n : Nat) (xs : List Int) : toD h (n + 2) (.tup (iz xs)) = some (dtup xs) := by
  show (optAll (toD h (n + 1)) (iz xs)).map PyData.tuple = _
  rw [toD_iz]
  rfl
theorem rp_tup {xs : List Int} {L : Nat} (h : ∀ x ∈ xs, x.natAbs < 10 ^ 12) (hl : xs.length ≤ L) : Rp 1 (L * 42) (dtup xs) :=
  Rp.tuple (fun d hd => by
    obtain ⟨x, hx, rfl⟩ := List.mem_map.mp hd
    exact Rp.int (h x hx)) (by simpa using hl)
theorem rp_lst {xs : List Int} {L : Nat} (h : ∀ x ∈ xs, x.natAbs < 10 ^ 12) (hl : xs.length ≤ L) : Rp 1 (L * 42) (.list (xs.map .int)) :=
  Rp.list (fun d hd => by
    obtain ⟨x, hx, rfl⟩ := List.mem_map.mp hd
    exact Rp.int (h x hx)) (by simpa using hl)
end MM
/-! P2: comprehensions and rows -/
namespace MM
open PySem L2
theorem lLc_pure {own : List Nat} {it : ItM} {G : IH → Bool} {g : GM} {c : IEnv → IH → R Bool} {f : EM} {e : IEnv} {h : IH} {α β : Type} {mk : α → IV} {p : α → Bool} {v : α → β} {mv : β → IV} {xs : List α} (hit : it e h = .ok (xs.map mk, G) h) (hG : G h = true) (hz : xs.length ≤ 2 ^ 20)
    (st : ∀ x ∈ xs, ∃ e1, g (mk x) (wipeE e own) h = some (e1, h) ∧ c e1 h = .ok (p x) h ∧ (p x = true → f e1 h = .ok (mv (v x)) h)) : lLc own it g c f e h = .ok (((xs.filter p).map v).map mv) h := by
  unfold lLc
  rw [hit]
  dsimp only [R.bind]
  rw [if_pos (by rw [List.length_map]; exact Nat.le_trans hz (by decide)), lc_pure mk p v mv hG xs st]
theorem lLc_map {own : List Nat} {it : ItM} {G : IH → Bool} {g : GM} {f : EM} {e : IEnv} {h : IH} {α β : Type} {mk : α → IV} {v : α → β} {mv : β → IV} {xs : List α} (hit : it e h = .ok (xs.map mk, G) h) (hG : G h = true) (hz : xs.length ≤ 2 ^ 20)
    (st : ∀ x ∈ xs, ∃ e1, g (mk x) (wipeE e own) h = some (e1, h) ∧ f e1 h = .ok (mv (v x)) h) : lLc own it g tYesM f e h = .ok ((xs.map v).map mv) h := by
  unfold lLc
  rw [hit]
  dsimp only [R.bind]
  rw [if_pos (by rw [List.length_map]; exact Nat.le_trans hz (by decide)), lc_map mk v mv hG xs st]
theorem bls_of : ∀ bs : List Bool, blsOf (bs.map .bl) = some bs
  | [] => rfl
  | b :: bs => by
    have ih := bls_of bs
    unfold blsOf at ih ⊢
    rw [List.map_cons, optAll, ih]
theorem bls_run {g : List Bool → Bool} {f : IEnv → IH → R (List IV)} {e : IEnv} {h : IH} {bs : List Bool} (hf : f e h = .ok (bs.map .bl) h) : eBls g f e h = .ok (.bl (g bs)) h := by
  unfold eBls
  rw [hf]
  dsimp only [R.bind]
  rw [bls_of]
theorem it_rg1 {f : EM} {e : IEnv} {h h1 : IH} {n : Int} (hf : f e h = .ok (.int n) h1) (h0 : 0 ≤ n) (h2 : n ≤ 2 ^ 20) : iRg1 f e h = .ok (iz (rng n), fun _ => true) h1 := by
  unfold iRg1
  rw [hf]
  dsimp only [R.bind]
  rw [if_pos (rgOk_of h0 h2), lRange_rng]
theorem it_tup {f : EM} {e : IEnv} {h h1 : IH} {xs : List IV} (hf : f e h = .ok (.tup xs) h1) : iTup f e h = .ok (xs, fun _ => true) h1 := by
  unfold iTup
  rw [hf]
  rfl
def prs (xs : List Int) (i : Int) : IV := .tup [.int i, .int (geti xs i)]
theorem enumFrom_rng (xs : List Int) : enumFrom 0 (iz xs) = (rng xs.length).map (prs xs) := by
  refine List.ext_getElem? fun i => ?_
  by_cases hi : i < xs.length
  · rw [enumFrom_at (iz xs) 0 i (.int xs[i]) (by rw [List.getElem?_map, List.getElem?_eq_getElem hi]; rfl), List.getElem?_map, rng_get? (by simpa using hi)]
    unfold prs geti
    rw [Option.map_some, List.getD_eq_getElem?_getD, Int.toNat_natCast, List.getElem?_eq_getElem hi, Nat.zero_add]
    rfl
  · rw [List.getElem?_eq_none (by rw [enumFrom_len, List.length_map]; omega), List.getElem?_eq_none (by rw [List.length_map, rng_len]; omega)]
theorem it_enum {f : EM} {e : IEnv} {h h1 : IH} {xs : List Int} (hf : f e h = .ok (.tup (iz xs)) h1) : iEnumT f e h = .ok ((rng xs.length).map (prs xs), fun _ => true) h1 := by
  unfold iEnumT
  rw [hf]
  dsimp only [R.bind]
  rw [enumFrom_rng]
theorem geti_get {xs : List Int} {i : Nat} (hi : i < xs.length) : geti xs (i : Int) = xs[i] := by
  unfold geti
  rw [List.getD_eq_getElem?_getD, Int.toNat_natCast, List.getElem?_eq_getElem hi]
  rfl
theorem map_rng {α : Type} (xs : List Int) (f : Int → α) : (rng xs.length).map (fun i => f (geti xs i)) = xs.map f := by
  refine List.ext_getElem? fun i => ?_
  by_cases hi : i < xs.length
  · rw [List.getElem?_map, List.getElem?_map, rng_get? (by simpa using hi), List.getElem?_eq_getElem hi, Option.map_some, Option.map_some, geti_get hi]
  · rw [List.getElem?_eq_none (by rw [List.length_map, rng_len]; omega), List.getElem?_eq_none (by rw [List.length_map]; omega)]
theorem iz_flat : ∀ xs : List Int, (iz xs).all flat = true
  | [] => rfl
  | x :: xs => by rw [iz, List.map_cons, List.all_cons]; exact iz_flat xs
theorem memB_iz (x : Int) : ∀ xs : List Int, memB (.int x) (iz xs) = xs.contains x
  | [] => rfl
  | y :: ys => by
    have ih := memB_iz x ys
    unfold memB at ih ⊢
    rw [iz, List.map_cons, List.any_cons, List.contains_cons, ih]
    show ((y == x) || _) = _
    rw [Bool.beq_comm]
theorem cin_iz {x : Int} {xs : List Int} {h : IH} : cIn (.int x) (.tup (iz xs)) h = .ok (.bl (xs.contains x)) h := by
  unfold cIn inItems items
  dsimp only
  rw [if_pos ⟨rfl, iz_flat xs⟩, memB_iz]
theorem ceq_i {i j : Int} {h : IH} : cEq (.int i) (.int j) h = .ok (.bl (decide (i = j))) h := rfl
theorem cne_i {i j : Int} {h : IH} : cNe (.int i) (.int j) h = .ok (.bl (!decide (i = j))) h := rfl
theorem ceq_s {i j : Str} {h : IH} : cEq (.str i) (.str j) h = .ok (.bl (i == j)) h := rfl
theorem cne_s {i j : Str} {h : IH} : cNe (.str i) (.str j) h = .ok (.bl (!(i == j))) h := rfl
theorem sset_run {f : IEnv → IH → R (List IV)} {e : IEnv} {h : IH} {xs : List Int} (hf : f e h = .ok (iz xs) h) (hz : xs.length < 60) : lSortSet f e h = .ok (iz (sortU xs)) h := by
  unfold lSortSet
  rw [hf]
  dsimp only [R.bind]
  rw [intsOf_ints]
  dsimp only
  rw [if_pos hz]
theorem lints_run {g : List Int → List Int} {f : IEnv → IH → R (List IV)} {e : IEnv} {h : IH} {xs : List Int} (hf : f e h = .ok (iz xs) h) : lInts g f e h = .ok (iz (g xs)) h := by
  unfold lInts
  rw [hf]
  dsimp only [R.bind]
  rw [intsOf_ints]
/-- a chart of n places -/
structure Ch (n : Int) (xs : List Int) : Prop where
  len : (xs.length : Int) = n
  lo : 1 ≤ n
  hi : n ≤ 10
  mem : ∀ x ∈ xs, 0 ≤ x ∧ x < n
/-- a row of all places -/
structure Row (n : Int) (xs : List Int) : Prop where
  ch : Ch n xs
  nd : xs.Nodup
theorem Ch.get {n : Int} {xs : List Int} (c : Ch n xs) {i : Int} (h1 : 0 ≤ i) (h2 : i < n) : 0 ≤ geti xs i ∧ geti xs i < n := c.mem _ (geti_mem h1 (by rw [c.len]; exact h2))
theorem Ch.rng {n : Int} {xs : List Int} (c : Ch n xs) : MM.rng xs.length = MM.rng n := by rw [c.len]
theorem up_get {ys : List Int} (hs : ys.Pairwise (· < ·)) (h0 : ∀ y ∈ ys, 0 ≤ y) : ∀ (i : Nat) (hi : i < ys.length), (i : Int) ≤ ys[i]
  | 0, hi => h0 _ (List.getElem_mem _)
  | i + 1, hi => by
    have a := up_get hs h0 i (by omega)
    have b := List.pairwise_iff_getElem.mp hs i (i + 1) (by omega) hi (by omega)
    omega
theorem down_get {ys : List Int} {n : Int} (hs : ys.Pairwise (· < ·)) (h0 : ∀ y ∈ ys, y < n) : ∀ (k i : Nat) (hi : i < ys.length), i + k + 1 = ys.length → ys[i] + (k : Int) < n
  | 0, i, hi, e => by have := h0 _ (List.getElem_mem hi); omega
  | k + 1, i, hi, e => by
    have a := down_get hs h0 k (i + 1) (by omega) (by omega)
    have b := List.pairwise_iff_getElem.mp hs i (i + 1) hi (by omega) (by omega)
    omega
theorem full_sorted {n : Int} {ys : List Int} (hs : ys.Pairwise (· < ·)) (h0 : ∀ y ∈ ys, 0 ≤ y ∧ y < n) (hl : (ys.length : Int) = n) : ys = rng n := by
  refine List.ext_getElem? fun i => ?_
  by_cases hi : i < ys.length
  · rw [rng_get? (by omega), List.getElem?_eq_getElem hi]
    have a := up_get hs (fun y hy => (h0 y hy).1) i hi
    have b := down_get hs (fun y hy => (h0 y hy).2) (ys.length - 1 - i) i hi (by omega)
    congr 1
    omega
  · rw [List.getElem?_eq_none (by omega), List.getElem?_eq_none (by rw [rng_len]; omega)]
theorem sortU_perm {xs : List Int} (nd : xs.Nodup) : xs.Perm (sortU xs) := (List.perm_ext_iff_of_nodup nd ((sortU_sorted xs).imp fun h => Int.ne_of_lt h)).mpr fun z => (sortU_mem z xs).symm
/-- a row of all places has each place -/
theorem Row.perm {n : Int} {xs : List Int} (r : Row n xs) : xs.Perm (MM.rng n) := by
  have p := sortU_perm r.nd
  rw [full_sorted (sortU_sorted xs) (fun y hy => r.ch.mem y ((sortU_mem y xs).mp hy)) (by rw [← p.length_eq]; exact r.ch.len)] at p
  exact p
theorem Row.onto {n : Int} {xs : List Int} (r : Row n xs) {p : Int} (h1 : 0 ≤ p) (h2 : p < n) : ∃ i : Nat, i < n.toNat ∧ geti xs i = p := by
  have : p ∈ xs := r.perm.mem_iff.mpr (rng_mem.mpr ⟨h1, h2⟩)
  obtain ⟨i, hi, e⟩ := List.getElem_of_mem this
  exact ⟨i, by have := r.ch.len; omega, by rw [geti_get hi, e]⟩
theorem Row.inj {n : Int} {xs : List Int} (r : Row n xs) {i j : Nat} (h1 : i < n.toNat) (h2 : j < n.toNat) (e : geti xs i = geti xs j) : i = j := by
  have hl := r.ch.len
  rw [geti_get (by omega), geti_get (by omega)] at e
  exact (List.getElem_inj r.nd).mp e
theorem Ch.small {n : Int} {xs : List Int} (c : Ch n xs) : ∀ x ∈ xs, x.natAbs < 10 ^ 12 := fun x hx => by
  have := c.mem x hx
  have := c.hi
  have e : (10 : Nat) ^ 12 = 1000000000000 := by decide
  omega
theorem ceq_lists {h : IH} {k l : Nat} {xs : List Int} (h1 : h[k]? = some (.lst (iz xs))) (h2 : h[l]? = some (.lst (iz xs))) (hz : xs.length ≤ 1000) (hs : ∀ x ∈ xs, x.natAbs < 10 ^ 12) : cEq (.ref k) (.ref l) h = .ok (.bl true) h := by
  have r := rp_lst hs hz
  have a := okD_all _ r.ok
  have sh : SeqAt.shaped (PyData.list (xs.map .int)) = true := by
    unfold SeqAt.shaped
    rw [a.1, decide_eq_true (Nat.le_trans r.dep (by decide))]; rfl
  have e : ∀ j : Nat, h[j]? = some (.lst (iz xs)) → toD h 66 (.ref j) = some (PyData.list (xs.map .int)) := fun j q => by
    show (match h[j]? with
      | some (.lst ys) => (optAll (toD h 65) ys).map PyData.list
      | _ => none) = _
    rw [q]
    dsimp only
    rw [toD_iz]
    rfl
  show twoD (.ref k) (.ref l) h _ = _
  unfold twoD
  rw [e k h1, e l h2]
  dsimp only
  rw [if_pos ⟨sh, sh⟩, SeqAt.eqv_refl _ a.1]
theorem add_tt {xs ys : List IV} {h : IH} (hz : xs.length + ys.length ≤ 2 ^ 20) : bAdd (.tup xs) (.tup ys) h = .ok (.tup (xs ++ ys)) h := if_pos (Nat.le_trans hz (by decide))
theorem cut_lo {α : Type} {xs : List α} {p : Int} (h1 : 0 ≤ p) (h2 : p ≤ xs.length) : cut xs none (some p) = xs.take p.toNat := by
  unfold cut HT.sIx
  dsimp only
  rw [if_neg (by omega), List.drop_zero, Nat.sub_zero, Nat.min_eq_left (by omega)]
theorem cut_hi {α : Type} {xs : List α} {p : Int} (h1 : 0 ≤ p) (h2 : p ≤ xs.length) : cut xs (some p) none = xs.drop p.toNat := by
  unfold cut HT.sIx
  dsimp only
  rw [if_neg (by omega), Nat.min_eq_left (by omega), List.take_of_length_le (by rw [List.length_drop]; omega)]
theorem belows_set {n : Nat} {v : IV} (hv : below n v = true) : ∀ (xs : List IV) (i : Nat), belows n xs = true → belows n (xs.set i v) = true
  | [], _, _ => rfl
  | x :: xs, 0, q => by
    simp only [belows, Bool.and_eq_true, List.set_cons_zero] at q ⊢
    exact ⟨hv, q.2⟩
  | x :: xs, i + 1, q => by
    simp only [belows, Bool.and_eq_true, List.set_cons_succ] at q ⊢
    exact ⟨q.1, belows_set hv xs i q.2⟩
theorem belows_app {n : Nat} : ∀ {xs ys : List IV}, belows n xs = true → belows n ys = true → belows n (xs ++ ys) = true
  | [], _, _, q => q
  | x :: xs, ys, p, q => by
    simp only [belows, Bool.and_eq_true, List.cons_append] at p ⊢
    exact ⟨p.1, belows_app p.2 q⟩
theorem belows_rep {n k : Nat} {v : IV} (hv : below n v = true) : belows n (List.replicate k v) = true := by
  induction k with
  | zero => rfl
  | succ k ih => rw [List.replicate_succ]; simp only [belows, Bool.and_eq_true]; exact ⟨hv, ih⟩
/-- at the places of the row stand the first j values -/
def Wr (row : List Int) (v : Nat → IV) (j : Nat) (L : List IV) : Prop := ∀ i : Nat, i < j → L[(geti row i).toNat]? = some (v i)
theorem Wr.step {n : Int} {row : List Int} (r : Row n row) {v : Nat → IV} {j : Nat} {L : List IV} (hl : L.length = n.toNat) (hj : j < n.toNat) (q : Wr row v j L) : Wr row v (j + 1) (L.set (geti row j).toNat (v j)) := fun i hi => by
  have hn := r.ch.lo
  by_cases e : i = j
  · subst e
    have := r.ch.get (i := (i : Int)) (by omega) (by omega)
    rw [List.getElem?_set_self (by omega)]
  · have hij : i < j := by omega
    have a := r.ch.get (i := (i : Int)) (by omega) (by omega)
    have b := r.ch.get (i := (j : Int)) (by omega) (by omega)
    rw [List.getElem?_set_ne (fun z => e (r.inj (by omega) hj (by omega)))]
    exact q i hij
theorem Wr.uniq {n : Int} {row : List Int} (r : Row n row) {v : Nat → IV} {L L' : List IV} (hl : L.length = n.toNat) (hl' : L'.length = n.toNat) (q : Wr row v n.toNat L) (q' : Wr row v n.toNat L') : L = L' := by
  refine List.ext_getElem? fun p => ?_
  by_cases hp : p < n.toNat
  · obtain ⟨i, hi, e⟩ := r.onto (p := (p : Int)) (by omega) (by omega)
    have a := q i hi
    have b := q' i hi
    rw [e, Int.toNat_natCast] at a b
    rw [a, b]
  · rw [List.getElem?_eq_none (by omega), List.getElem?_eq_none (by omega)]
theorem rep_flat (n : Nat) (v : IV) : (List.replicate n [v]).flatten = List.replicate n v := by
  induction n with
  | zero => rfl
  | succ n ih => rw [List.replicate_succ, List.flatten_cons, ih, List.replicate_succ]; rfl
theorem lrep_run {f : IEnv → IH → R (List IV)} {g : EM} {e : IEnv} {h : IH} {v : IV} {n : Int} (hf : f e h = .ok [v] h) (hg : g e h = .ok (.int n) h) (h0 : 0 ≤ n) (h2 : n ≤ 2 ^ 20) : lRep f g e h = .ok (List.replicate n.toNat v) h := by
  unfold lRep
  rw [hf]
  dsimp only [R.bind]
  rw [hg]
  dsimp only
  rw [if_pos ⟨by omega, by omega, by simp only [List.length_cons, List.length_nil]; exact Nat.le_trans (by omega) (by decide : 2 ^ 20 ≤ sizeLine)⟩, rep_flat]
theorem set_map {n : Int} {xs : List Int} (c : Ch n xs) {p y : Int} (h1 : 0 ≤ p) (h2 : p < n) : (rng n).map (fun z => if z = p then y else geti xs z) = xs.set p.toNat y := by
  have hl := c.len
  refine List.ext_getElem? fun i => ?_
  by_cases hi : i < n.toNat
  · rw [List.getElem?_map, rng_get? hi, Option.map_some]
    by_cases e : i = p.toNat
    · subst e
      rw [List.getElem?_set_self (by omega), if_pos (by omega)]
    · rw [List.getElem?_set_ne (fun z => e z.symm), if_neg (by omega), geti_get (by omega), List.getElem?_eq_getElem (by omega)]
  · rw [List.getElem?_eq_none (by rw [List.length_map, rng_len]; omega), List.getElem?_eq_none (by rw [List.length_set]; omega)]
theorem F_retE {F : FM} {np n : Nat} {b : SM} (hF : F = runF np n b) {vs : List IV} {h : IH} {P : IV → IH → Prop} (hn : vs.length = np) (q : wpS (b (vs.map some ++ List.replicate (n - vs.length) none) h) (fun _ h1 => okR (fin h.length .non h1) P) fun u h1 => okR (fin h.length u h1) P) : okR (F vs h) P := by
  rw [hF]
  exact F_ret hn q
theorem eC_run {F : FM} {f : IEnv → IH → R (List IV)} {e : IEnv} {h h1 : IH} {vs : List IV} {r : R IV} (hf : f e h = .ok vs h1) (hF : F vs h1 = r) : eC F f e h = r := by
  unfold eC
  rw [hf]
  exact hF
theorem eCK_run {F : FM} {ix : List Nat} {g : IEnv → IH → R (List IV)} {e : IEnv} {h h1 : IH} {us vs : List IV} {r : R IV} (hg : g e h = .ok us h1) (hp : pick ix us = vs) (hF : F vs h1 = r) : eCK F ix aNil g e h = r := by
  unfold eCK aNil
  dsimp only [R.bind]
  rw [hg]
  dsimp only
  rw [List.nil_append, hp]
  exact hF
theorem okR.seq {α β : Type} {r : R α} {f : α → IH → R β} {P : β → IH → Prop} (q : okR r fun a h => okR (f a h) P) : okR (r.bind f) P := okR.bind q
theorem w_sip {F : FM} {f : IEnv → IH → R (List IV)} {e : IEnv} {h : IH} {vs : List IV} {P : IV → IH → Prop} (hf : f e h = .ok vs h) (q : okR (F vs h) P) : okR (eC F f e h) P := by
  unfold eC
  rw [hf]
  exact q
theorem w_and {f g : IEnv → IH → R Bool} {e : IEnv} {h : IH} {P : Bool → IH → Prop} (q : okR (f e h) fun b h1 => (b = true → okR (g e h1) P) ∧ (b = false → P false h1)) : okR (tAndM f g e h) P := by
  unfold tAndM
  refine okR.bind (q.mono fun b h1 ⟨p1, p2⟩ => ?_)
  cases b with
  | true => rw [if_pos rfl]; exact p1 rfl
  | false => rw [if_neg (by decide)]; exact .here (p2 rfl)
theorem gc_same {f : EM} {e : IEnv} {h : IH} {v : IV} (q : f e h = .ok v h) : gcE f e h = .ok v h := by
  unfold gcE
  rw [q]
  exact fin_self _ _
theorem reprL_run {f : IEnv → IH → R (List IV)} {e : IEnv} {h : IH} {vs : List IV} {ds : List PyData} {n w : Nat} (hf : f e h = .ok vs h) (hd : optAll (toD h 66) vs = some ds) (r : Rp n w (.list ds)) (h1 : n ≤ 64) (h2 : w ≤ 2 ^ 20) : gcE (eReprL f) e h = .ok (.str (PyData.list ds).shown) h := by
  refine gc_same ?_
  unfold eReprL
  rw [hf]
  dsimp only [R.bind]
  rw [hd]
  exact r.rpr h1 h2
/-- two texts of the same data are the same -/
theorem chk_run {f g : IEnv → IH → R (List IV)} {e : IEnv} {h : IH} {vs : List IV} {ds : List PyData} {n w : Nat} (hf : f e h = .ok vs h) (hg : g e h = .ok vs h) (hd : optAll (toD h 66) vs = some ds) (r : Rp n w (.list ds)) (h1 : n ≤ 64) (h2 : w ≤ 2 ^ 20) :
    toB (e2 cNe (gcE (eReprL f)) (gcE (eReprL g))) e h = .ok false h := by
  unfold toB e2
  rw [reprL_run hf hd r h1 h2]
  dsimp only [R.bind]
  rw [reprL_run hg hd r h1 h2]
  dsimp only
  rw [cne_s]
  simp
theorem w_chk {t : IEnv → IH → R Bool} {a : SM} {e : IEnv} {h : IH} {N : IEnv → IH → Prop} {T : IV → IH → Prop} (ht : t e h = .ok false h) (n : N e h) : wpS (sIf t a sNil e h) N T := w_if (okR.of ht (by rw [if_neg (by decide)]; exact w_nil n))
theorem optD2 {h : IH} {a b : IV} {x y : PyData} (h1 : toD h 66 a = some x) (h2 : toD h 66 b = some y) : optAll (toD h 66) [a, b] = some [x, y] := by
  rw [optAll, h1, optAll, h2]
  rfl
theorem optD3 {h : IH} {a b c : IV} {x y z : PyData} (h1 : toD h 66 a = some x) (h2 : toD h 66 b = some y) (h3 : toD h 66 c = some z) : optAll (toD h 66) [a, b, c] = some [x, y, z] := by
  rw [optAll, h1, optAll, h2, optAll, h3]
  rfl
theorem rp_two {a b : List Int} {L : Nat} (ha : ∀ x ∈ a, x.natAbs < 10 ^ 12) (hb : ∀ x ∈ b, x.natAbs < 10 ^ 12) (la : a.length ≤ L) (lb : b.length ≤ L) : Rp 2 (2 * (L * 42 + 1)) (.list [dtup a, dtup b]) :=
  Rp.list (fun d hd => by
    rcases List.mem_cons.mp hd with e | hd
    · rw [e]; exact rp_tup ha la
    · rw [List.mem_singleton] at hd; rw [hd]; exact rp_tup hb lb) (Nat.le_refl 2)
theorem rp_three {a b c : List Int} {L : Nat} (ha : ∀ x ∈ a, x.natAbs < 10 ^ 12) (hb : ∀ x ∈ b, x.natAbs < 10 ^ 12) (hc : ∀ x ∈ c, x.natAbs < 10 ^ 12) (la : a.length ≤ L) (lb : b.length ≤ L) (lc : c.length ≤ L) : Rp 2 (3 * (L * 42 + 1)) (.list [dtup a, dtup b, dtup c]) :=
  Rp.list (fun d hd => by
    rcases List.mem_cons.mp hd with e | hd
    · rw [e]; exact rp_tup ha la
    · rcases List.mem_cons.mp hd with e | hd
      · rw [e]; exact rp_tup hb lb
      · rw [List.mem_singleton] at hd; rw [hd]; exact rp_tup hc lc) (Nat.le_refl 3)
theorem eqv_nil (ls : List Int) : PyData.eqv (.list (ls.map .int)) (.list []) = ls.isEmpty := by
  cases ls with
  | nil => exact SeqAt.eqv_refl _ rfl
  | cons x xs => simp [PyData.eqv, PyData.eqvAll]
/-- left != [] -/
theorem ne_nil_run {i k : Nat} {e : IEnv} {h : IH} {ls : List Int} (he : e[i]? = some (some (.ref k))) (hk : h[k]? = some (.lst (iz ls))) (f : FlatH h) (hz : ls.length ≤ 1000) (hs : ∀ x ∈ ls, x.natAbs < 10 ^ 12) :
    gcT (toB (e2 cNe (eVar i) (eNew (lLst aNil)))) e h = .ok (!ls.isEmpty) h := by
  have hlk : k < h.length := (List.getElem?_eq_some_iff.mp hk).1
  have shp : ∀ xs : List Int, xs.length ≤ 1000 → (∀ x ∈ xs, x.natAbs < 10 ^ 12) → SeqAt.shaped (PyData.list (xs.map .int)) = true := fun xs q1 q2 => by
    have r := rp_lst q2 q1
    have a := okD_all _ r.ok
    unfold SeqAt.shaped
    rw [a.1, decide_eq_true (Nat.le_trans r.dep (by decide))]; rfl
  have td : ∀ (xs : List Int) (j : Nat) (h1 : IH), h1[j]? = some (.lst (iz xs)) → toD h1 66 (.ref j) = some (PyData.list (xs.map .int)) := fun xs j h1 q => by
    show (match h1[j]? with
      | some (.lst ys) => (optAll (toD h1 65) ys).map PyData.list
      | _ => none) = _
    rw [q]
    dsimp only
    rw [toD_iz]
    rfl
  have q : cNe (.ref k) (.ref h.length) (h ++ [.lst []]) = .ok (.bl (!ls.isEmpty)) (h ++ [.lst []]) := by
    show twoD (.ref k) (.ref h.length) (h ++ [.lst []]) _ = _
    unfold twoD
    rw [td ls k _ (by rw [List.getElem?_append_left hlk]; exact hk), td [] h.length _ (by simp)]
    dsimp only
    rw [if_pos ⟨shp ls hz hs, shp [] (by simp) (by simp)⟩, List.map_nil, eqv_nil]
  unfold gcT
  have e1 : toB (e2 cNe (eVar i) (eNew (lLst aNil))) e h = .ok (!ls.isEmpty) (h ++ [.lst []]) := by
    have z0 : 0 ≤ sizeLine := Nat.zero_le _
    simp only [toB, e2, eVar, he, eNew, lLst, aNil, R.bind, List.length_nil, if_pos z0, q]
  rw [e1]
  dsimp only
  unfold finB
  rw [if_pos ((f.app rfl).take _ _), List.take_left]
theorem aCons_run {f : EM} {g : IEnv → IH → R (List IV)} {e : IEnv} {h h1 h2 : IH} {v : IV} {vs : List IV} (q1 : f e h = .ok v h1) (q2 : g e h1 = .ok vs h2) : aCons f g e h = .ok (v :: vs) h2 := by
  unfold aCons
  rw [q1]
  dsimp only [R.bind]
  rw [q2]
theorem eNew_run {f : IEnv → IH → R (List IV)} {e : IEnv} {h h1 : IH} {xs : List IV} (q : f e h = .ok xs h1) : eNew f e h = .ok (.ref h1.length) (h1 ++ [.lst xs]) := by
  unfold eNew
  rw [q]
  rfl
theorem eMth_run {o : IV → List IV → IH → R IV} {f : EM} {g : IEnv → IH → R (List IV)} {e : IEnv} {h h1 h2 : IH} {k : Nat} {xs ys : List IV} {r : R IV} (q1 : f e h = .ok (.ref k) h1) (q2 : h1[k]? = some (.lst xs)) (q3 : g e h1 = .ok ys h2) (q4 : o (.ref k) ys h2 = r) : eMth o f g e h = r := by
  unfold eMth
  rw [q1]
  dsimp only [R.bind]
  rw [q2]
  dsimp only
  rw [q3]
  exact q4
theorem e2_run' {o : IV → IV → IH → R IV} {f g : EM} {e : IEnv} {h h1 h2 : IH} {x y : IV} {r : R IV} (q1 : f e h = .ok x h1) (q2 : g e h1 = .ok y h2) (q3 : o x y h2 = r) : e2 o f g e h = r := by
  unfold e2
  rw [q1]
  dsimp only [R.bind]
  rw [q2]
  exact q3
theorem toB_run' {f : EM} {e : IEnv} {h h1 : IH} {b : Bool} (q : f e h = .ok (.bl b) h1) : toB f e h = .ok b h1 := by
  unfold toB
  rw [q]
  rfl
theorem erase_map (xs : List Int) : ∀ i : Nat, (iz xs).eraseIdx i = iz (xs.eraseIdx i) := by
  induction xs with
  | nil => intro i; rfl
  | cons x xs ih =>
    intro i
    cases i with
    | zero => rfl
    | succ i =>
      show IV.int x :: (iz xs).eraseIdx i = IV.int x :: iz (xs.eraseIdx i)
      rw [ih]
theorem lst_run {f : IEnv → IH → R (List IV)} {e : IEnv} {h h1 : IH} {xs : List IV} (hf : f e h = .ok xs h1) (hz : xs.length ≤ 2 ^ 20) : lLst f e h = .ok xs h1 := by
  unfold lLst
  rw [hf]
  exact if_pos (Nat.le_trans hz (by decide))
theorem perm_erase : ∀ (l : List Int) (i : Nat) (hi : i < l.length), (l[i] :: l.eraseIdx i).Perm l
  | x :: xs, 0, _ => .refl _
  | x :: xs, i + 1, hi => by
    rw [List.getElem_cons_succ, List.eraseIdx_cons_succ]
    exact (List.Perm.swap ..).trans ((perm_erase xs i (by simpa using hi)).cons x)
theorem tup_run {f : IEnv → IH → R (List IV)} {e : IEnv} {h h1 : IH} {xs : List IV} (hf : f e h = .ok xs h1) (hz : xs.length ≤ 2 ^ 20) : eTup f e h = .ok (.tup xs) h1 := by
  unfold eTup
  rw [hf]
  exact if_pos (Nat.le_trans hz (by decide))
theorem tuple_run {f : IEnv → IH → R (List IV)} {e : IEnv} {h h1 : IH} {xs : List IV} (hf : f e h = .ok xs h1) : eTuple f e h = .ok (.tup xs) h1 := by
  unfold eTuple
  rw [hf]
  rfl
theorem qV_ref {f : EM} {e : IEnv} {h h1 : IH} {k : Nat} {xs : List IV} (hf : f e h = .ok (.ref k) h1) (hk : h1[k]? = some (.lst xs)) : qV f e h = .ok xs h1 := by
  unfold qV items
  rw [hf]
  dsimp only [R.bind]
  rw [hk]
end MM
/-! P3: steps and ways -/
namespace MM
open PySem L2
/-- k steps on -/
def itn (xs : List Int) : Nat → Int → Int
  | 0, x => x
  | k + 1, x => itn xs k (geti xs x)
theorem itn_add (xs : List Int) (b : Nat) : ∀ (a : Nat) (x : Int), itn xs (a + b) x = itn xs b (itn xs a x)
  | 0, x => by rw [Nat.zero_add]; rfl
  | a + 1, x => by
    rw [show a + 1 + b = (a + b) + 1 by omega]
    show itn xs (a + b) (geti xs x) = _
    rw [itn_add xs b a]
    rfl
theorem itn_succ (xs : List Int) (k : Nat) (x : Int) : itn xs (k + 1) x = geti xs (itn xs k x) := by rw [itn_add]; rfl
theorem Ch.itn {n : Int} {xs : List Int} (c : Ch n xs) : ∀ (k : Nat) {x : Int}, 0 ≤ x → x < n → 0 ≤ MM.itn xs k x ∧ MM.itn xs k x < n
  | 0, x, h1, h2 => ⟨h1, h2⟩
  | k + 1, x, h1, h2 => by
    have a := c.get h1 h2
    exact c.itn k a.1 a.2
def tab (xs : List Int) (n : Int) (k : Nat) : List Int := (rng n).map (itn xs k)
theorem tab_ch {n : Int} {xs : List Int} (c : Ch n xs) (k : Nat) : Ch n (tab xs n k) := by
  have := c.lo
  refine ⟨by unfold tab; rw [List.length_map, rng_len]; omega, c.lo, c.hi, fun x hx => ?_⟩
  obtain ⟨z, hz, rfl⟩ := List.mem_map.mp hx
  have hm := rng_mem.mp hz
  exact c.itn k hm.1 hm.2
theorem geti_map {n : Int} (f : Int → Int) {i : Int} (h1 : 0 ≤ i) (h2 : i < n) : geti ((rng n).map f) i = f i := by
  unfold geti
  rw [List.getD_eq_getElem?_getD, List.getElem?_map, rng_get? (by omega)]
  show f (i.toNat : Int) = _
  congr 1
  omega
theorem tab_get {n : Int} {xs : List Int} (k : Nat) {i : Int} (h1 : 0 ≤ i) (h2 : i < n) : geti (tab xs n k) i = itn xs k i := geti_map _ h1 h2
theorem tab_behind {n : Int} {xs : List Int} (c : Ch n xs) (a b : Nat) : (tab xs n a).map (geti (tab xs n b)) = tab xs n (a + b) := by
  unfold tab
  rw [List.map_map]
  refine List.map_congr_left fun i hi => ?_
  have hm := rng_mem.mp hi
  have hi := c.itn a hm.1 hm.2
  show geti ((rng n).map (itn xs b)) (itn xs a i) = _
  rw [geti_map _ hi.1 hi.2, itn_add]
theorem tab_one {n : Int} {xs : List Int} (c : Ch n xs) : tab xs n 1 = xs := by
  have := map_rng xs (fun x => x)
  rw [c.len, List.map_id'] at this
  exact this
theorem tab_zero (xs : List Int) (n : Int) : tab xs n 0 = rng n := List.map_id' _
theorem tab_next {n : Int} {xs : List Int} (k : Nat) : (tab xs n k).map (geti xs) = tab xs n (k + 1) := by
  unfold tab
  rw [List.map_map]
  exact List.map_congr_left fun i _ => (itn_succ xs k i).symm
theorem w_aug {i : Nat} {o : IV → IV → IH → R IV} {f : EM} {e : IEnv} {h h1 h2 : IH} {x y z : IV} {N : IEnv → IH → Prop} {T : IV → IH → Prop} (he : e[i]? = some (some x)) (hf : f e h = .ok y h1) (ho : o x y h1 = .ok z h2) (n : N (e.set i (some z)) h2) : wpS (sAug i o f e h) N T := by
  unfold sAug
  rw [he]
  dsimp only
  rw [hf]
  dsimp only [RS.of]
  rw [ho]
  exact .nx n
theorem F_sameE {F : FM} {np n : Nat} {b : SM} (hF : F = runF np n b) {vs : List IV} {h : IH} {v : IV} (hn : vs.length = np) (q : wpS (b (vs.map some ++ List.replicate (n - vs.length) none) h) (fun _ h1 => v = .non ∧ h1 = h) fun u h1 => u = v ∧ h1 = h) : F vs h = .ok v h := by
  rw [hF]
  exact F_same hn q
/-- what is walked from p on until it comes again -/
structure IsPath (xs : List Int) (p : Int) (L : List Int) : Prop where
  ne : 0 < L.length
  get : ∀ k (h : k < L.length), L[k] = itn xs k p
  nd : L.Nodup
  cl : itn xs L.length p ∈ L
theorem IsPath.short {xs : List Int} {p : Int} {L L' : List Int} (a : IsPath xs p L) (b : IsPath xs p L') : ¬ L.length < L'.length := fun hl => by
  obtain ⟨k, hk, e⟩ := List.getElem_of_mem a.cl
  have e1 : L'[L.length]'hl = L'[k]'(by omega) := by rw [b.get _ hl, b.get k (by omega), ← e, a.get k hk]
  have := (List.getElem_inj b.nd).mp e1
  omega
theorem IsPath.uniq {xs : List Int} {p : Int} {L L' : List Int} (a : IsPath xs p L) (b : IsPath xs p L') : L = L' := by
  have h1 := a.short b
  have h2 := b.short a
  refine List.ext_getElem (by omega) fun k q1 q2 => ?_
  rw [a.get k q1, b.get k q2]
theorem nodup_len {n : Int} {L : List Int} (nd : L.Nodup) (h : ∀ x ∈ L, 0 ≤ x ∧ x < n) : L.length ≤ n.toNat := by
  have p := sortU_perm nd
  have hm : ∀ y ∈ sortU L, 0 ≤ y ∧ y < n := fun y hy => h y ((sortU_mem y L).mp hy)
  rw [p.length_eq]
  by_cases h0 : (sortU L).length = 0
  · omega
  · have a := up_get (sortU_sorted L) (fun y hy => (hm y hy).1) ((sortU L).length - 1) (by omega)
    have b := (hm _ (List.getElem_mem (by omega : (sortU L).length - 1 < (sortU L).length))).2
    omega
theorem itn_period {xs : List Int} {p : Int} {at_ c : Nat} (e : itn xs (at_ + c) p = itn xs at_ p) (r : Nat) : ∀ q : Nat, itn xs (at_ + (r + q * c)) p = itn xs (at_ + r) p
  | 0 => by rw [Nat.zero_mul, Nat.add_zero]
  | q + 1 => by
    have ih := itn_period e r q
    rw [show at_ + (r + (q + 1) * c) = at_ + c + (r + q * c) by rw [Nat.add_mul, Nat.one_mul]; omega, itn_add, e, ← itn_add, ih]
theorem IsPath.far {xs : List Int} {p : Int} {L : List Int} (a : IsPath xs p L) {at_ : Nat} (h1 : at_ < L.length) (h2 : L[at_] = itn xs L.length p) {N : Nat} (hN : L.length ≤ N) : itn xs N p = itn xs (at_ + (N - at_) % (L.length - at_)) p := by
  have e : itn xs (at_ + (L.length - at_)) p = itn xs at_ p := by
    rw [show at_ + (L.length - at_) = L.length by omega, ← h2, a.get at_ h1]
  have := itn_period e ((N - at_) % (L.length - at_)) ((N - at_) / (L.length - at_))
  rw [Nat.mul_comm, Nat.mod_add_div, show at_ + (N - at_) = N by omega] at this
  exact this
theorem ix_last {h : IH} {k : Nat} {L : List Int} (hk : h[k]? = some (.lst (iz L))) (hn : 0 < L.length) : bIx (.ref k) (.int (-1)) h = .ok (.int (L[L.length - 1]'(by omega))) h := by
  have e : atI (iz L) (-1) = some (.int (L[L.length - 1]'(by omega))) := by
    unfold atI ixN
    rw [if_neg (by decide), if_pos (by rw [List.length_map]; omega)]
    show (iz L)[((-1 : Int) + ((iz L).length : Nat)).toNat]? = _
    rw [List.length_map, show ((-1 : Int) + (L.length : Nat)).toNat = L.length - 1 by omega, List.getElem?_map, List.getElem?_eq_getElem (by omega)]
    rfl
  unfold bIx items
  dsimp only
  rw [hk]
  dsimp only
  rw [e]
theorem cnin_ref {h : IH} {k : Nat} {L : List Int} {v : Int} (hk : h[k]? = some (.lst (iz L))) : cNin (.int v) (.ref k) h = .ok (.bl (!L.contains v)) h := by
  unfold cNin inItems items
  dsimp only
  rw [hk]
  dsimp only
  rw [if_pos ⟨rfl, iz_flat L⟩, memB_iz]
theorem fin_pair {h1 : IH} {n k : Nat} {v : IV} (hk : n ≤ k) : fin n (.tup [.ref k, v]) h1 = .ok (.tup [.ref k, v]) h1 := by
  have hb : below n (.tup [.ref k, v]) = false := by
    simp only [below, belows]
    rw [decide_eq_false (by omega), Bool.false_and]
  unfold fin
  split
  · rw [if_neg (by rw [hb]; decide)]
  · rfl
theorem idx_iz {v : Int} : ∀ {L : List Int}, v ∈ L → ∃ (j : Nat) (hj : j < L.length), idxOf (.int v) (iz L) = some j ∧ L[j] = v
  | x :: xs, h => by
    by_cases e : x = v
    · subst e
      refine ⟨0, by simp, ?_, rfl⟩
      show (if eqF (.int x) (.int x) = true then some 0 else _) = _
      rw [if_pos (by show (x == x) = true; simp)]
    · have hm : v ∈ xs := by
        rcases List.mem_cons.mp h with q | q
        · exact absurd q.symm e
        · exact q
      obtain ⟨j, hj, q1, q2⟩ := idx_iz hm
      refine ⟨j + 1, by simpa using hj, ?_, by rw [List.getElem_cons_succ]; exact q2⟩
      show (if eqF (.int x) (.int v) = true then some 0 else (idxOf (.int v) (iz xs)).map (· + 1)) = _
      rw [if_neg (by show ¬ (x == v) = true; simpa using e), q1]
      rfl
theorem urepr_tup {h : IH} {xs : List Int} (hs : ∀ x ∈ xs, x.natAbs < 10 ^ 12) (hz : xs.length ≤ 1000) : uRepr (.tup (iz xs)) h = .ok (.str (dtup xs).shown) h := by
  show (match toD h 66 (.tup (iz xs)) with
    | some d => MM.rpr d h
    | none => .bad) = _
  rw [toD_tup h 64 xs]
  exact (rp_tup hs hz).rpr (by decide) (by decide)
theorem urepr_ref {h : IH} {k : Nat} {xs : List Int} (hk : h[k]? = some (.lst (iz xs))) (hs : ∀ x ∈ xs, x.natAbs < 10 ^ 12) (hz : xs.length ≤ 1000) : uRepr (.ref k) h = .ok (.str (PyData.list (xs.map .int)).shown) h := by
  have td : toD h 66 (.ref k) = some (PyData.list (xs.map .int)) := by
    show (match h[k]? with
      | some (.lst ys) => (optAll (toD h 65) ys).map PyData.list
      | _ => none) = _
    rw [hk]
    dsimp only
    rw [toD_iz]
    rfl
  show (match toD h 66 (.ref k) with
    | some d => MM.rpr d h
    | none => .bad) = _
  rw [td]
  exact (rp_lst hs hz).rpr (by decide) (by decide)
end MM
/-! P4: rings -/
namespace MM
open PySem L2
/-- x comes again -/
def OnR (xs : List Int) (x : Int) : Prop := ∃ k : Nat, 0 < k ∧ itn xs k x = x
theorem itn_comm (xs : List Int) (a b : Nat) (x : Int) : itn xs a (itn xs b x) = itn xs b (itn xs a x) := by rw [← itn_add, ← itn_add, Nat.add_comm]
theorem itn_mul {xs : List Int} {k : Nat} {x : Int} (e : itn xs k x = x) : ∀ m : Nat, itn xs (m * k) x = x
  | 0 => by rw [Nat.zero_mul]; rfl
  | m + 1 => by rw [Nat.add_mul, Nat.one_mul, itn_add, itn_mul e m, e]
theorem OnR.step {xs : List Int} {x : Int} (o : OnR xs x) (j : Nat) : OnR xs (itn xs j x) := by
  obtain ⟨k, hk, e⟩ := o
  exact ⟨k, hk, by rw [itn_comm, e]⟩
theorem OnR.back {xs : List Int} {x : Int} (o : OnR xs x) (j : Nat) : ∃ i, itn xs i (itn xs j x) = x := by
  obtain ⟨k, hk, e⟩ := o
  refine ⟨j * k - j, ?_⟩
  have h1 : j ≤ j * k := Nat.le_mul_of_pos_right j hk
  rw [← itn_add, show j + (j * k - j) = j * k by omega, itn_mul e]
/-- the closing place -/
theorem IsPath.at_ {xs : List Int} {p : Int} {L : List Int} (a : IsPath xs p L) : ∃ (j : Nat) (h : j < L.length), L[j] = itn xs L.length p := by
  obtain ⟨j, hj, e⟩ := List.getElem_of_mem a.cl
  exact ⟨j, hj, e⟩
theorem IsPath.zero {xs : List Int} {p : Int} {L : List Int} (a : IsPath xs p L) : L[0]'a.ne = p := a.get 0 a.ne
/-- a ring's path closes at its first place -/
theorem IsPath.close {xs : List Int} {p : Int} {L : List Int} (a : IsPath xs p L) (o : OnR xs p) : itn xs L.length p = p := by
  obtain ⟨j, hj, e⟩ := a.at_
  obtain ⟨k, hk, ek⟩ := o
  have h1 : L.length ≤ L.length * k := Nat.le_mul_of_pos_right _ hk
  have f := a.far hj e (N := L.length * k) h1
  rw [itn_mul ek] at f
  have hr : (L.length * k - j) % (L.length - j) < L.length - j := Nat.mod_lt _ (by omega)
  have q : L[j + (L.length * k - j) % (L.length - j)]'(by omega) = L[0]'a.ne := by rw [a.get _ (by omega), a.zero, ← f]
  have q2 := (List.getElem_inj a.nd).mp q
  have j0 : j = 0 := by omega
  subst j0
  rw [← e, a.zero]
theorem IsPath.mem {xs : List Int} {p : Int} {L : List Int} (a : IsPath xs p L) (o : OnR xs p) {y : Int} : y ∈ L ↔ ∃ k, itn xs k p = y := by
  constructor
  · intro h
    obtain ⟨j, hj, e⟩ := List.getElem_of_mem h
    exact ⟨j, by rw [← e, a.get j hj]⟩
  · rintro ⟨k, rfl⟩
    by_cases hk : k < L.length
    · rw [← a.get k hk]; exact List.getElem_mem hk
    · have c := a.close o
      have f := a.far (at_ := 0) a.ne (by rw [a.zero, c]) (N := k) (by omega)
      rw [f]
      have : (k - 0) % (L.length - 0) < L.length := by rw [Nat.sub_zero]; exact Nat.mod_lt _ a.ne
      rw [Nat.zero_add, ← a.get _ this]
      exact List.getElem_mem _
theorem IsPath.onR_of {xs : List Int} {p : Int} {L : List Int} (a : IsPath xs p L) {j : Nat} (hj : j < L.length) (e : L[j] = itn xs L.length p) {i : Nat} (hi : j ≤ i) (hi2 : i < L.length) : OnR xs L[i] := by
  refine ⟨L.length - j, by omega, ?_⟩
  rw [a.get i hi2, ← itn_add, show i + (L.length - j) = L.length + (i - j) by omega, itn_add, ← e, a.get j hj, ← itn_add, show j + (i - j) = i by omega]
/-- going round from another place of the ring -/
theorem IsPath.turn {xs : List Int} {p : Int} {L : List Int} (a : IsPath xs p L) (o : OnR xs p) {t : Nat} (ht : t < L.length) : IsPath xs L[t] (L.drop t ++ L.take t) := by
  have c := a.close o
  have hl : (L.drop t ++ L.take t).length = L.length := by rw [List.length_append, List.length_drop, List.length_take]; omega
  have e1 : itn xs (L.length - t) L[t] = p := by rw [a.get t ht, ← itn_add, show t + (L.length - t) = L.length by omega, c]
  have cl : itn xs L.length L[t] = L[t] := by rw [a.get t ht, itn_comm, c]
  refine ⟨by rw [hl]; exact a.ne, fun k hk => ?_, ?_, ?_⟩
  · rw [hl] at hk
    by_cases h : k < L.length - t
    · rw [List.getElem_append_left (by rw [List.length_drop]; exact h), List.getElem_drop, a.get _ (by omega), a.get t ht, ← itn_add]
    · rw [List.getElem_append_right (by rw [List.length_drop]; omega), List.getElem_take, a.get _ (by rw [List.length_drop]; omega), List.length_drop]
      have : itn xs k L[t] = itn xs (k - (L.length - t)) p := by
        conv => lhs; rw [show k = (L.length - t) + (k - (L.length - t)) by omega, itn_add, e1]
      exact this.symm
  · refine (List.Perm.nodup_iff ?_).mpr a.nd
    exact List.perm_append_comm.trans (by rw [List.take_append_drop])
  · rw [hl, cl]
    exact List.mem_append_left _ (by
      rw [List.mem_iff_getElem]
      exact ⟨0, by rw [List.length_drop]; omega, by rw [List.getElem_drop]; simp only [Nat.add_zero]⟩)
/-- the least of a path -/
theorem minL_get {L : List Int} (h : 0 < L.length) : ∃ m, minL L = some m ∧ m ∈ L ∧ ∀ y ∈ L, m ≤ y := by
  cases L with
  | nil => simp at h
  | cons x xs =>
    have q := minL_fold xs x
    exact ⟨_, rfl, q.1, q.2⟩
open Classical in
/-- the path from p -/
noncomputable def pth (xs : List Int) (p : Int) : List Int := if h : ∃ L, IsPath xs p L then Classical.choose h else []
theorem pth_is {xs : List Int} {p : Int} {L : List Int} (a : IsPath xs p L) : pth xs p = L := by
  have h : ∃ L, IsPath xs p L := ⟨L, a⟩
  unfold pth
  rw [dif_pos h]
  exact (Classical.choose_spec h).uniq a
/-- all paths of a chart are there -/
structure Pths (n : Int) (xs : List Int) : Prop where
  ch : Ch n xs
  is : ∀ p, 0 ≤ p → p < n → IsPath xs p (pth xs p)
  rg : ∀ p, 0 ≤ p → p < n → ∀ y ∈ pth xs p, 0 ≤ y ∧ y < n
section
variable {n : Int} {xs : List Int} (P : Pths n xs)
include P
theorem Pths.sym {x y : Int} (x0 : 0 ≤ x) (x1 : x < n) (o : OnR xs x) (h : y ∈ pth xs x) : OnR xs y ∧ x ∈ pth xs y := by
  obtain ⟨k, rfl⟩ := ((P.is x x0 x1).mem o).mp h
  have r := P.rg x x0 x1 _ h
  have oy := o.step k
  exact ⟨oy, ((P.is _ r.1 r.2).mem oy).mpr (o.back k)⟩
theorem Pths.trans {x y z : Int} (x0 : 0 ≤ x) (x1 : x < n) (o : OnR xs x) (h : y ∈ pth xs x) (h2 : z ∈ pth xs y) : z ∈ pth xs x := by
  have r := P.rg x x0 x1 _ h
  obtain ⟨k, e⟩ := ((P.is x x0 x1).mem o).mp h
  have oy := (P.sym x0 x1 o h).1
  obtain ⟨l, e2⟩ := ((P.is y r.1 r.2).mem oy).mp h2
  exact ((P.is x x0 x1).mem o).mpr ⟨k + l, by rw [itn_add, e, e2]⟩
theorem Pths.len {x : Int} (x0 : 0 ≤ x) (x1 : x < n) : (pth xs x).length ≤ n.toNat := nodup_len (P.is x x0 x1).nd (P.rg x x0 x1)
/-- what all come to -/
theorem Pths.far_iff {z : Int} (z0 : 0 ≤ z) (z1 : z < n) : z ∈ tab xs n n.toNat ↔ OnR xs z := by
  unfold tab
  rw [List.mem_map]
  constructor
  · rintro ⟨y, hy, rfl⟩
    have hm := rng_mem.mp hy
    have a := P.is y hm.1 hm.2
    obtain ⟨j, hj, e⟩ := a.at_
    have hl := P.len hm.1 hm.2
    have f := a.far hj e (N := n.toNat) hl
    have hr : (n.toNat - j) % ((pth xs y).length - j) < (pth xs y).length - j := Nat.mod_lt _ (by omega)
    generalize (n.toNat - j) % ((pth xs y).length - j) = r at f hr
    rw [f, ← a.get _ (by omega : j + r < (pth xs y).length)]
    exact a.onR_of hj e (Nat.le_add_right _ _) (by omega)
  · rintro ⟨k, hk, e⟩
    have h1 : n.toNat ≤ n.toNat * k := Nat.le_mul_of_pos_right _ hk
    have hz := P.ch.itn (n.toNat * k - n.toNat) z0 z1
    refine ⟨itn xs (n.toNat * k - n.toNat) z, rng_mem.mpr hz, ?_⟩
    rw [← itn_add, show n.toNat * k - n.toNat + n.toNat = n.toNat * k by omega, itn_mul e]
end
open Classical in
/-- the places on rings -/
noncomputable def onr (xs : List Int) (n : Int) : List Int := (rng n).filter fun x => decide (OnR xs x)
open Classical in
theorem onr_mem {xs : List Int} {n x : Int} : x ∈ onr xs n ↔ (0 ≤ x ∧ x < n) ∧ OnR xs x := by
  unfold onr
  rw [List.mem_filter, rng_mem, decide_eq_true_eq]
theorem onr_sorted (xs : List Int) (n : Int) : (onr xs n).Pairwise (· < ·) := (rng_sorted n).filter _
theorem Pths.sortU {n : Int} {xs : List Int} (P : Pths n xs) : MM.sortU (tab xs n n.toNat) = onr xs n := sortU_of (onr_sorted xs n) fun z => by
  rw [onr_mem]
  constructor
  · rintro ⟨⟨h1, h2⟩, o⟩
    exact (P.far_iff h1 h2).mpr o
  · intro h
    have hm := (tab_ch P.ch n.toNat).mem z h
    exact ⟨hm, (P.far_iff hm.1 hm.2).mp h⟩
/-- first of its ring -/
def Fst (xs : List Int) (x : Int) : Prop := OnR xs x ∧ ∀ y ∈ pth xs x, x ≤ y
open Classical in
noncomputable def fsts (xs : List Int) (l : List Int) : List Int := l.filter fun x => decide (Fst xs x)
/-- the rings, each from its least place -/
noncomputable def rngs (xs : List Int) (n : Int) : List (List Int) := (fsts xs (rng n)).map (pth xs)
open Classical in
theorem fsts_onr (xs : List Int) (n : Int) : fsts xs (onr xs n) = fsts xs (rng n) := by
  unfold fsts onr
  rw [List.filter_filter]
  refine List.filter_congr fun x _ => ?_
  by_cases h : Fst xs x
  · rw [decide_eq_true h, decide_eq_true h.1]; rfl
  · rw [decide_eq_false h]; rfl
open Classical in
theorem fsts_mem {xs l : List Int} {x : Int} : x ∈ fsts xs l ↔ x ∈ l ∧ Fst xs x := by
  unfold fsts
  rw [List.mem_filter, decide_eq_true_eq]
section
variable {n : Int} {xs : List Int} (P : Pths n xs)
include P
/-- each ring place has the first one of its ring -/
theorem Pths.fst {x : Int} (x0 : 0 ≤ x) (x1 : x < n) (o : OnR xs x) : ∃ (m : Int) (t : Nat) (ht : t < (pth xs x).length), minL (pth xs x) = some m ∧ (pth xs x)[t] = m ∧ 0 ≤ m ∧ m < n ∧ m ≤ x ∧ Fst xs m ∧ x ∈ pth xs m ∧ pth xs m = (pth xs x).drop t ++ (pth xs x).take t := by
  have a := P.is x x0 x1
  obtain ⟨m, e1, hm, hle⟩ := minL_get a.ne
  obtain ⟨t, ht, et⟩ := List.getElem_of_mem hm
  have r := P.rg x x0 x1 m hm
  have s := P.sym x0 x1 o hm
  have tu := a.turn o ht
  rw [et] at tu
  have xin : x ∈ pth xs x := by have := List.getElem_mem a.ne; rw [a.zero] at this; exact this
  exact ⟨m, t, ht, e1, et, r.1, r.2, hle x xin, ⟨s.1, fun y hy => hle y (P.trans x0 x1 o hm hy)⟩, s.2, pth_is tu⟩
/-- a place stands in an earlier ring exactly if it is not the first of its own -/
theorem Pths.seen {x : Int} (x0 : 0 ≤ x) (x1 : x < n) (o : OnR xs x) : Fst xs x ↔ ¬ ∃ z, 0 ≤ z ∧ z < x ∧ Fst xs z ∧ x ∈ pth xs z := by
  constructor
  · rintro ⟨_, h⟩ ⟨z, z0, z1, fz, hz⟩
    have s := P.sym z0 (by omega) fz.1 hz
    have := h z s.2
    omega
  · intro h
    obtain ⟨m, t, ht, e1, et, m0, m1, mx, fm, xm, _⟩ := P.fst x0 x1 o
    by_cases e : m = x
    · rw [← e]; exact fm
    · exact absurd ⟨m, m0, by omega, fm, xm⟩ h
theorem Pths.in_ring {x : Int} (x0 : 0 ≤ x) (x1 : x < n) : OnR xs x ↔ ∃ r ∈ rngs xs n, x ∈ r := by
  unfold rngs
  constructor
  · intro o
    obtain ⟨m, t, ht, e1, et, m0, m1, mx, fm, xm, _⟩ := P.fst x0 x1 o
    exact ⟨pth xs m, List.mem_map.mpr ⟨m, fsts_mem.mpr ⟨rng_mem.mpr ⟨m0, m1⟩, fm⟩, rfl⟩, xm⟩
  · rintro ⟨r, hr, hx⟩
    obtain ⟨m, hm, rfl⟩ := List.mem_map.mp hr
    obtain ⟨h1, h2⟩ := fsts_mem.mp hm
    have h3 := rng_mem.mp h1
    exact (P.sym h3.1 h3.2 h2.1 hx).1
/-- just one ring has it -/
theorem Pths.own {x m : Int} (x0 : 0 ≤ x) (x1 : x < n) (o : OnR xs x) (m0 : 0 ≤ m) (m1 : m < n) (fm : Fst xs m) (xm : x ∈ pth xs m) : (rngs xs n).filter (fun r => r.contains x) = [pth xs m] := by
  unfold rngs
  rw [List.filter_map]
  have key : ∀ z, z ∈ fsts xs (rng n) → (x ∈ pth xs z ↔ z = m) := fun z hz => by
    obtain ⟨h1, h2⟩ := fsts_mem.mp hz
    have h3 := rng_mem.mp h1
    constructor
    · intro h
      have a := P.sym h3.1 h3.2 h2.1 h
      have b := P.sym m0 m1 fm.1 xm
      have q1 := h2.2 m (P.trans h3.1 h3.2 h2.1 h b.2)
      have q2 := fm.2 z (P.trans m0 m1 fm.1 xm a.2)
      omega
    · rintro rfl; exact xm
  have e : (fsts xs (rng n)).filter ((fun r => r.contains x) ∘ pth xs) = [m] := by
    have hs : (fsts xs (rng n)).Pairwise (· < ·) := (rng_sorted n).filter _
    have hm : m ∈ fsts xs (rng n) := fsts_mem.mpr ⟨rng_mem.mpr ⟨m0, m1⟩, fm⟩
    have nd : ((fsts xs (rng n)).filter ((fun r => r.contains x) ∘ pth xs)).Nodup := (hs.imp fun h => Int.ne_of_lt h).filter _
    have pm : ∀ z, z ∈ (fsts xs (rng n)).filter ((fun r => r.contains x) ∘ pth xs) ↔ z ∈ [m] := fun z => by
      rw [List.mem_filter, List.mem_singleton]
      show z ∈ fsts xs (rng n) ∧ (pth xs z).contains x = true ↔ _
      rw [List.contains_iff_mem]
      exact ⟨fun ⟨h1, h2⟩ => (key z h1).mp h2, fun h => ⟨by rw [h]; exact hm, by rw [h]; exact xm⟩⟩
    exact List.Perm.eq_singleton ((List.perm_ext_iff_of_nodup nd (by simp)).mpr pm)
  rw [e]
  rfl
/-- where its way comes upon a ring -/
theorem Pths.entry {x : Int} (x0 : 0 ≤ x) (x1 : x < n) : ∃ (e : Int) (r : List Int), (pth xs x).filter (fun y => (onr xs n).contains y) = e :: r ∧ 0 ≤ e ∧ e < n ∧ OnR xs e ∧ e ∈ pth xs x ∧ ∀ (l : Int), l = (pth xs x)[(pth xs x).length - 1]'(by have := (P.is x x0 x1).ne; omega) → ∀ z, 0 ≤ z → z < n → OnR xs z → (e ∈ pth xs z ↔ l ∈ pth xs z) := by
  have a := P.is x x0 x1
  obtain ⟨j, hj, ej⟩ := a.at_
  have oj := a.onR_of hj ej (Nat.le_refl _) hj
  have rj := P.rg x x0 x1 _ (List.getElem_mem hj)
  cases hf : (pth xs x).filter (fun y => (onr xs n).contains y) with
  | nil =>
    exfalso
    have : (pth xs x)[j] ∈ (pth xs x).filter (fun y => (onr xs n).contains y) := List.mem_filter.mpr ⟨List.getElem_mem hj, List.contains_iff_mem.mpr (onr_mem.mpr ⟨rj, oj⟩)⟩
    rw [hf] at this
    cases this
  | cons e r =>
    have he : e ∈ (pth xs x).filter (fun y => (onr xs n).contains y) := by rw [hf]; exact List.mem_cons_self ..
    obtain ⟨h1, h2⟩ := List.mem_filter.mp he
    obtain ⟨⟨e0, e1⟩, oe⟩ := onr_mem.mp (List.contains_iff_mem.mp h2)
    refine ⟨e, r, rfl, e0, e1, oe, h1, ?_⟩
    rintro l rfl z z0 z1 oz
    obtain ⟨i, hi, ei⟩ := List.getElem_of_mem h1
    have lm : (pth xs x)[(pth xs x).length - 1]'(by omega) ∈ pth xs e := by
      refine ((P.is e e0 e1).mem oe).mpr ⟨(pth xs x).length - 1 - i, ?_⟩
      rw [← ei, a.get i hi, ← itn_add, a.get _ (by omega)]
      congr 1
      omega
    constructor
    · intro h
      exact P.trans z0 z1 oz h lm
    · intro h
      exact P.trans z0 z1 oz h (P.sym e0 e1 oe lm).2
end
end MM
namespace LW
open PySem L2 MM
def b__law_cup : SM := sRet (eNew (lLst (aCons (eIf (toB (e2 cGe (eVar 0) (e2 bPow (eK (.int 10)) (eK (.int 18))))) (e2 bSub (e1 uInt (eVar 0)) (e2 bPow (eK (.int 10)) (eK (.int 18)))) (eK (.int 0))) (aCons (e2 bAdd (e2 bMod (e1 uInt (eVar 0)) (eK (.int 2147483629))) (eK (.int 3))) (aNil)))))
def F__law_cup : FM := runF 1 1 b__law_cup
def b__law_sip : SM := sSeq (sIf (toB (e2 cGt (e2 bIx (eVar 0) (eK (.int 0))) (eK (.int 0)))) (sSeq (sAsg (e2 bMod (e1 uInt (e2 bIx (eVar 0) (eK (.int 0)))) (eVar 1)) (gNm 2))
  (sSeq (sAsg (e2 bDiv (e2 bIx (eVar 0) (eK (.int 0))) (eVar 1)) (gSb (eVar 0) (eK (.int 0))))
  (sRet (eVar 2)))) (sNil))
  (sSeq (sAsg (e2 bMod (e1 uInt (e2 bMul (e2 bIx (eVar 0) (eK (.int 1))) (eK (.int 69621)))) (eK (.int 2147483647))) (gSb (eVar 0) (eK (.int 1))))
  (sRet (e2 bMod (e2 bDiv (e2 bMod (e1 uInt (e2 bMul (e2 bIx (eVar 0) (eK (.int 1))) (e2 bIx (eVar 0) (eK (.int 1))))) (eK (.int 2147483629))) (eK (.int 32))) (eVar 1))))
def F__law_sip : FM := runF 2 3 b__law_sip
def b__law_row : SM := sSeq (sPar [2, 3] (aCons (eNew (lRg1 (eVar 1))) (aCons (eNew (lLst (aNil))) (aNil))))
  (sSeq (sWhile (fun _ _ => 100000) (gcT (toB (e2 cNe (eVar 2) (eNew (lLst (aNil)))))) (sExpr (eMth mAppend (eVar 3) (aCons (eMth mPop (eVar 2) (aCons (eC F__law_sip (aCons (eVar 0) (aCons (eLen (qV (eVar 2))) (aNil)))) (aNil))) (aNil)))))
  (sRet (eVar 3)))
def F__law_row : FM := runF 2 4 b__law_row
def b__law_chart : SM := sSeq (sPar [4, 5] (aCons (eC F__law_sip (aCons (eVar 0) (aCons (eK (.int 4)) (aNil)))) (aCons (eC F__law_row (aCons (eVar 0) (aCons (eVar 1) (aNil)))) (aNil))))
  (sSeq (sAsg (eNew (lRep (lLst (aCons (eK (.int 0)) (aNil))) (eVar 1))) (gNm 2))
  (sSeq (sFor (iRg1 (eVar 1)) (gNm 3) (sSeq (sAsg (eC F__law_sip (aCons (eVar 0) (aCons (eVar 1) (aNil)))) (gNm 6))
  (sSeq (sIf (tAndM (toB (e2 cEq (eVar 4) (eK (.int 2)))) (tAndM (toB (e2 cGt (eVar 3) (eK (.int 0)))) (toB (e2 cGt (eC F__law_sip (aCons (eVar 0) (aCons (eK (.int 5)) (aNil)))) (eK (.int 0)))))) (sAsg (e2 bSub (eVar 3) (eK (.int 1))) (gNm 6)) (sNil))
  (sSeq (sIf (tAndM (toB (e2 cEq (eVar 4) (eK (.int 3)))) (tAndM (toB (e2 cGt (eVar 3) (eK (.int 0)))) (toB (e2 cGt (eC F__law_sip (aCons (eVar 0) (aCons (eK (.int 4)) (aNil)))) (eK (.int 0)))))) (sAsg (e2 bMod (eVar 6) (e2 bAdd (eK (.int 1)) (e2 bDiv (eVar 3) (eK (.int 3))))) (gNm 6)) (sNil))
  (sAsg (e2 bIx (eVar 5) (eVar 6)) (gSb (eVar 2) (e2 bIx (eVar 5) (eVar 3))))))))
  (sRet (eIf (toB (e2 cNe (eVar 4) (eK (.int 1)))) (eTuple (qV (eVar 2))) (eTuple (qV (eVar 5)))))))
def F__law_chart : FM := runF 2 7 b__law_chart
def b__law_way : SM := sSeq (sAsg (eNew (lLst (aCons (eVar 1) (aNil)))) (gNm 2))
  (sSeq (sWhile (fun _ _ => 100000) (toB (e2 cNin (e2 bIx (eVar 0) (e2 bIx (eVar 2) (e1 uNeg (eK (.int 1))))) (eVar 2))) (sExpr (eMth mAppend (eVar 2) (aCons (e2 bIx (eVar 0) (e2 bIx (eVar 2) (e1 uNeg (eK (.int 1))))) (aNil)))))
  (sRet (eTup (aCons (eVar 2) (aCons (eMth mIndex (eVar 2) (aCons (e2 bIx (eVar 0) (e2 bIx (eVar 2) (e1 uNeg (eK (.int 1))))) (aNil))) (aNil))))))
def F__law_way : FM := runF 2 3 b__law_way
def b__law_rings : SM := sSeq (sAsg (eNew (lLst (aNil))) (gNm 1))
  (sSeq (sFor (iRg1 (eLen (qV (eVar 0)))) (gNm 2) (sSeq (sAsg (eC F__law_way (aCons (eVar 0) (aCons (eVar 2) (aNil)))) (gTp 2 (gCons' (gNm 4) (gCons' (gNm 5) (gNil')))))
  (sSeq (sAsg (eNew (lCut (eVar 4) (oS (eVar 5)) (oN))) (gNm 3))
  (sIf (toB (e2 cEq (eVar 2) (eInts minL (qLV (eVar 3))))) (sSeq (sAsg (eMth mIndex (eVar 3) (aCons (eVar 2) (aNil))) (gNm 6))
  (sExpr (eMth mAppend (eVar 1) (aCons (eTuple (lCat (lCut (eVar 3) (oS (eVar 6)) (oN)) (lCut (eVar 3) (oN) (oS (eVar 6))))) (aNil))))) (sNil)))))
  (sRet (eVar 1)))
def F__law_rings : FM := runF 1 7 b__law_rings
def b_is_integer : SM := sRet (eAnd (e1 (uIsi "int") (eVar 0)) (eNot (e1 (uIsi "bool") (eVar 0))))
def F_is_integer : FM := runF 1 1 b_is_integer
def b_is_between : SM := sRet (eAnd (eC F_is_integer (aCons (eVar 1) (aNil))) (eChain cLe cLe (eVar 0) (eVar 1) (eVar 2)))
def F_is_between : FM := runF 3 3 b_is_between
def b_is_chart : SM := sSeq (sIf (tOrM (tNotM (toB (e1 (uIsi "tuple") (eVar 0)))) (tNotM (toB (eChain cLe cLe (eK (.int 1)) (eLen (qV (eVar 0))) (eK (.int 10)))))) (sRet (eK (.bl false))) (sNil))
  (sRet (eBls (·.all id) (lLc [1] (iTup (eVar 0)) (gNm 1) (tYesM) (eC F_is_between (aCons (eK (.int 0)) (aCons (eVar 1) (aCons (e2 bSub (eLen (qV (eVar 0))) (eK (.int 1))) (aNil))))))))
def F_is_chart : FM := runF 1 2 b_is_chart
def b_check_chart : SM := sIf (tNotM (toB (eC F_is_chart (aCons (eVar 0) (aNil))))) (sBad) (sNil)
def F_check_chart : FM := runF 1 1 b_check_chart
def b_image_of : SM := sRet (eTuple (lSortSet (iTupV (eVar 0))))
def F_image_of : FM := runF 1 1 b_image_of
def b_behind_of : SM := sRet (eTuple (lLc [2] (iTup (eVar 0)) (gNm 2) (tYesM) (e2 bIx (eVar 1) (eVar 2))))
def F_behind_of : FM := runF 2 3 b_behind_of
def b_step_of : SM := sSeq (sAsg (eTuple (lRg1 (eLen (qV (eVar 0))))) (gNm 2))
  (sSeq (sAsg (eVar 0) (gNm 3))
  (sSeq (sWhile (fun _ _ => 100000) (toB (e2 cGt (eVar 1) (eK (.int 0)))) (sSeq (sIf (toB (e2 cEq (e2 bMod (eVar 1) (eK (.int 2))) (eK (.int 1)))) (sAsg (eC F_behind_of (aCons (eVar 2) (aCons (eVar 3) (aNil)))) (gNm 2)) (sNil))
  (sSeq (sAsg (eC F_behind_of (aCons (eVar 3) (aCons (eVar 3) (aNil)))) (gNm 3))
  (sAug 1 bDiv (eK (.int 2))))))
  (sRet (eVar 2))))
def F_step_of : FM := runF 2 4 b_step_of
def b_on_rings_of : SM := sRet (eC F_image_of (aCons (eC F_step_of (aCons (eVar 0) (aCons (eLen (qV (eVar 0))) (aNil)))) (aNil)))
def F_on_rings_of : FM := runF 1 1 b_on_rings_of
def b_way_of : SM := sSeq (sAsg (eNew (lLst (aCons (eVar 1) (aNil)))) (gNm 2))
  (sSeq (sWhile (fun _ _ => 100000) (toB (e2 cNin (e2 bIx (eVar 0) (e2 bIx (eVar 2) (e1 uNeg (eK (.int 1))))) (eVar 2))) (sExpr (eMth mAppend (eVar 2) (aCons (e2 bIx (eVar 0) (e2 bIx (eVar 2) (e1 uNeg (eK (.int 1))))) (aNil)))))
  (sRet (eTuple (qV (eVar 2)))))
def F_way_of : FM := runF 2 3 b_way_of
def b_depths_of : SM := sSeq (sAsg (eC F_on_rings_of (aCons (eVar 0) (aNil))) (gNm 1))
  (sRet (eTuple (lLc [2] (iRg1 (eLen (qV (eVar 0)))) (gNm 2) (tYesM) (gcE (eMth mIndex (eNew (lLc [3] (iTup (eC F_way_of (aCons (eVar 0) (aCons (eVar 2) (aNil))))) (gNm 3) (tYesM) (e2 cIn (eVar 3) (eVar 1)))) (aCons (eK (.bl true)) (aNil)))))))
def F_depths_of : FM := runF 1 4 b_depths_of
def b_depths : SM := sSeq (sExpr (eC F_check_chart (aCons (eVar 0) (aNil))))
  (sRet (eC F_depths_of (aCons (eVar 0) (aNil))))
def F_depths : FM := runF 1 1 b_depths
def b__law_least : SM := sSeq (sAsg (eK (.int 1)) (gNm 1))
  (sSeq (sWhile (fun _ _ => 100000) (gcT (toB (e2 cNe (eNew (lLc [2] (iLstV (eVar 0)) (gNm 2) (toB (e2 cGt (e2 bMod (e1 uInt (eVar 1)) (eVar 2)) (eK (.int 0)))) (eVar 2))) (eNew (lLst (aNil)))))) (sAsg (e2 bAdd (eVar 1) (eK (.int 1))) (gNm 1)))
  (sRet (eVar 1)))
def F__law_least : FM := runF 1 3 b__law_least
def b_height_of : SM := sRet (eInts maxL (qTV (eC F_depths_of (aCons (eVar 0) (aNil)))))
def F_height_of : FM := runF 1 1 b_height_of
def b_height : SM := sSeq (sExpr (eC F_check_chart (aCons (eVar 0) (aNil))))
  (sRet (eC F_height_of (aCons (eVar 0) (aNil))))
def F_height : FM := runF 1 1 b_height
def b_ring_at : SM := sSeq (sAsg (eC F_way_of (aCons (eVar 0) (aCons (eVar 1) (aNil)))) (gNm 2))
  (sSeq (sAsg (eTIx (eVar 2) (aCons (eInts minL (qTV (eVar 2))) (aNil))) (gNm 3))
  (sRet (e2 bAdd (eCutT (eVar 2) (oS (eVar 3)) (oN)) (eCutT (eVar 2) (oN) (oS (eVar 3))))))
def F_ring_at : FM := runF 2 4 b_ring_at
def b_rings_of : SM := sSeq (sAsg (eNew (lLst (aNil))) (gNm 1))
  (sSeq (sFor (iTup (eC F_on_rings_of (aCons (eVar 0) (aNil)))) (gNm 2) (sIf (tNotM (toB (eBls (·.any id) (lLc [3] (iLstV (eVar 1)) (gNm 3) (tYesM) (e2 cIn (eVar 2) (eVar 3)))))) (sExpr (eMth mAppend (eVar 1) (aCons (eC F_ring_at (aCons (eVar 0) (aCons (eVar 2) (aNil)))) (aNil)))) (sNil)))
  (sRet (eVar 1)))
def F_rings_of : FM := runF 1 4 b_rings_of
def b_period_of : SM := sSeq (sAsg (eK (.int 1)) (gNm 1))
  (sSeq (sFor (iLstV (eC F_rings_of (aCons (eVar 0) (aNil)))) (gNm 2) (sAsg (e2 bDiv (e2 bMul (eVar 1) (eLen (qV (eVar 2)))) (e2 bGcd (eVar 1) (eLen (qV (eVar 2))))) (gNm 1)))
  (sRet (eVar 1)))
def F_period_of : FM := runF 1 3 b_period_of
def b_period : SM := sSeq (sExpr (eC F_check_chart (aCons (eVar 0) (aNil))))
  (sRet (eC F_period_of (aCons (eVar 0) (aNil))))
def F_period : FM := runF 1 1 b_period
def b_check_place : SM := sIf (tNotM (toB (eC F_is_between (aCons (eK (.int 0)) (aCons (eVar 1) (aCons (e2 bSub (eVar 0) (eK (.int 1))) (aNil))))))) (sBad) (sNil)
def F_check_place : FM := runF 2 2 b_check_place
def b_depth : SM := sSeq (sExpr (eC F_check_chart (aCons (eVar 0) (aNil))))
  (sSeq (sExpr (eC F_check_place (aCons (eLen (qV (eVar 0))) (aCons (eVar 1) (aNil)))))
  (sRet (e2 bIx (eC F_depths_of (aCons (eVar 0) (aNil))) (eVar 1))))
def F_depth : FM := runF 2 2 b_depth
def b_children_of : SM := sSeq (sAsg (eC F_on_rings_of (aCons (eVar 0) (aNil))) (gNm 1))
  (sSeq (sAsg (eNew (lLc [3] (iTup (eVar 0)) (gNm 3) (tYesM) (eNew (lLst (aNil))))) (gNm 2))
  (sSeq (sFor (iEnumT (eVar 0)) (gTp 2 (gCons' (gNm 3) (gCons' (gNm 4) (gNil')))) (sIf (toB (e2 cNin (eVar 3) (eVar 1))) (sExpr (eMth mAppend (e2 bIx (eVar 2) (eVar 4)) (aCons (eVar 3) (aNil)))) (sNil)))
  (sRet (eVar 2))))
def F_children_of : FM := runF 1 5 b_children_of
def b_children : SM := sSeq (sExpr (eC F_check_chart (aCons (eVar 0) (aNil))))
  (sSeq (sExpr (eC F_check_place (aCons (eLen (qV (eVar 0))) (aCons (eVar 1) (aNil)))))
  (sRet (eTuple (qV (e2 bIx (eC F_children_of (aCons (eVar 0) (aNil))) (eVar 1))))))
def F_children : FM := runF 2 2 b_children
def b_tree_of : SM := sSeq (sAsg (eC F_children_of (aCons (eVar 0) (aNil))) (gNm 2))
  (sSeq (sAsg (eNew (lLst (aCons (eVar 1) (aNil)))) (gNm 3))
  (sSeq (sAsg (eK (.int 0)) (gNm 4))
  (sSeq (sWhile (fun _ _ => 100000) (toB (e2 cLt (eVar 4) (eLen (qV (eVar 3))))) (sSeq (sAug 3 bExt (e2 bIx (eVar 2) (e2 bIx (eVar 3) (eVar 4))))
  (sAug 4 bAddI (eK (.int 1)))))
  (sRet (eTuple (lInts sortI (qV (eVar 3))))))))
def F_tree_of : FM := runF 2 5 b_tree_of
def b_tree_over : SM := sSeq (sExpr (eC F_check_chart (aCons (eVar 0) (aNil))))
  (sSeq (sExpr (eC F_check_place (aCons (eLen (qV (eVar 0))) (aCons (eVar 1) (aNil)))))
  (sRet (eC F_tree_of (aCons (eVar 0) (aCons (eVar 1) (aNil))))))
def F_tree_over : FM := runF 2 2 b_tree_over
def b__law_places_right : SM := sSeq (sFor (iRg1 (eLen (qV (eVar 0)))) (gNm 3) (sSeq (sAsg (eTuple (lLc [6] (iRg1 (eLen (qV (eVar 0)))) (gNm 6) (tAndM (toB (e2 cEq (e2 bIx (eVar 0) (eVar 6)) (eVar 3))) (toB (e2 cNin (eVar 6) (eVar 1)))) (eVar 6))) (gNm 4))
  (sSeq (sAsg (eNew (lLst (aNil))) (gNm 5))
  (sSeq (sFor (iRg1 (eLen (qV (eVar 0)))) (gNm 6) (sSeq (sAsg (e2 bIx (eC F__law_way (aCons (eVar 0) (aCons (eVar 6) (aNil)))) (eK (.int 0))) (gNm 7))
  (sIf (tAndM (toB (e2 cIn (eVar 3) (eVar 7))) (gcT (toB (e2 cEq (eNew (lLc [8] (iFresh (lCut (eVar 7) (oN) (oS (eMth mIndex (eVar 7) (aCons (eVar 3) (aNil)))))) (gNm 8) (toB (e2 cIn (eVar 8) (eVar 1))) (eVar 8))) (eNew (lLst (aNil))))))) (sExpr (eMth mAppend (eVar 5) (aCons (eVar 6) (aNil)))) (sNil))))
  (sSeq (sAsg (eTuple (qV (eVar 5))) (gNm 5))
  (sSeq (sIf (toB (e2 cNe (gcE (eReprL (lLst (aCons (eC F_depth (aCons (eVar 0) (aCons (eVar 3) (aNil)))) (aCons (eCK F_depth [1, 0] aNil (aCons (eVar 3) (aCons (eVar 0) (aNil)))) (aNil)))))) (gcE (eReprL (lLst (aCons (e2 bIx (eVar 2) (eVar 3)) (aCons (e2 bIx (eVar 2) (eVar 3)) (aNil)))))))) (sRet (eK (.bl false))) (sNil))
  (sSeq (sIf (toB (e2 cNe (gcE (eReprL (lLst (aCons (eC F_children (aCons (eVar 0) (aCons (eVar 3) (aNil)))) (aCons (eCK F_children [1, 0] aNil (aCons (eVar 3) (aCons (eVar 0) (aNil)))) (aNil)))))) (gcE (eReprL (lLst (aCons (eVar 4) (aCons (eVar 4) (aNil)))))))) (sRet (eK (.bl false))) (sNil))
  (sIf (toB (e2 cNe (gcE (eReprL (lLst (aCons (eC F_tree_over (aCons (eVar 0) (aCons (eVar 3) (aNil)))) (aCons (eCK F_tree_over [1, 0] aNil (aCons (eVar 3) (aCons (eVar 0) (aNil)))) (aNil)))))) (gcE (eReprL (lLst (aCons (eVar 5) (aCons (eVar 5) (aNil)))))))) (sRet (eK (.bl false))) (sNil)))))))))
  (sRet (eK (.bl true)))
def F__law_places_right : FM := runF 3 9 b__law_places_right
def b__law_number : SM := sSeq (sAsg (eC F__law_sip (aCons (eVar 0) (aCons (eK (.int 5)) (aNil)))) (gNm 1))
  (sSeq (sIf (toB (e2 cEq (eVar 1) (eK (.int 0)))) (sRet (eC F__law_sip (aCons (eVar 0) (aCons (eK (.int 3000)) (aNil))))) (sNil))
  (sSeq (sIf (toB (e2 cEq (eVar 1) (eK (.int 1)))) (sRet (e2 bAdd (e2 bMul (e2 bPow (eK (.int 10)) (eK (.int 45))) (e2 bPow (eK (.int 10)) (eK (.int 44)))) (eC F__law_sip (aCons (eVar 0) (aCons (eK (.int 5040)) (aNil)))))) (sNil))
  (sSeq (sIf (toB (e2 cEq (eVar 1) (eK (.int 2)))) (sSeq (sAsg (eNew (lLst (aCons (e2 bPow (eK (.int 10)) (eK (.int 4))) (aCons (e2 bPow (eK (.int 10)) (eK (.int 12))) (aCons (e2 bPow (eK (.int 10)) (eK (.int 20))) (aCons (e2 bPow (eK (.int 10)) (eK (.int 33))) (aCons (e2 bPow (eK (.int 10)) (eK (.int 50))) (aCons (e2 bMul (e2 bPow (eK (.int 10)) (eK (.int 55))) (e2 bPow (eK (.int 10)) (eK (.int 9)))) (aCons (e2 bMul (e2 bPow (eK (.int 10)) (eK (.int 40))) (e2 bPow (eK (.int 10)) (eK (.int 40)))) (aNil)))))))))) (gNm 2))
  (sSeq (sAsg (e2 bMul (e2 bIx (eVar 2) (eC F__law_sip (aCons (eVar 0) (aCons (eK (.int 7)) (aNil))))) (e2 bIx (eNew (lLst (aCons (eK (.int 1)) (aCons (eK (.int 2520)) (aNil))))) (eC F__law_sip (aCons (eVar 0) (aCons (eK (.int 2)) (aNil)))))) (gNm 3))
  (sRet (e2 bAdd (eVar 3) (eC F__law_sip (aCons (eVar 0) (aCons (e2 bIx (eNew (lLst (aCons (eK (.int 5040)) (aCons (eK (.int 11)) (aNil))))) (eC F__law_sip (aCons (eVar 0) (aCons (eK (.int 2)) (aNil))))) (aNil)))))))) (sNil))
  (sRet (eC F__law_sip (aCons (eVar 0) (aCons (eK (.int 13)) (aNil))))))))
def F__law_number : FM := runF 1 4 b__law_number
def b_is_from : SM := sRet (eAnd (eC F_is_integer (aCons (eVar 1) (aNil))) (e2 cGe (eVar 1) (eVar 0)))
def F_is_from : FM := runF 2 2 b_is_from
def b_check_number : SM := sIf (tNotM (toB (eC F_is_from (aCons (eK (.int 0)) (aCons (eVar 0) (aNil)))))) (sBad) (sNil)
def F_check_number : FM := runF 1 1 b_check_number
def b_first_repeat : SM := sSeq (sExpr (eC F_check_chart (aCons (eVar 0) (aNil))))
  (sSeq (sExpr (eC F_check_number (aCons (eVar 1) (aNil))))
  (sRet (eIf (toB (e2 cGe (eVar 1) (eC F_height_of (aCons (eVar 0) (aNil))))) (e2 bAdd (eVar 1) (eC F_period_of (aCons (eVar 0) (aNil)))) (eK .non))))
def F_first_repeat : FM := runF 2 2 b_first_repeat
def b_law : SM := sSeq (sFor (iFresh (lCat (lLst (aCons (eK (.int 67679081387164818670000000000000000000000302222222528222222226)) (aNil))) (lCut (eVar 0) (oN) (oS (eK (.int 5)))))) (gNm 1) (sSeq (sAsg (eC F__law_cup (aCons (eVar 1) (aNil))) (gNm 2))
  (sSeq (sAsg (eC F__law_chart (aCons (eVar 2) (aCons (e2 bAdd (eK (.int 1)) (eC F__law_sip (aCons (eVar 2) (aCons (eK (.int 10)) (aNil))))) (aNil)))) (gNm 3))
  (sSeq (sAsg (eC F__law_rings (aCons (eVar 3) (aNil))) (gNm 4))
  (sSeq (sAsg (eNew (lLc [11] (iRg1 (eLen (qV (eVar 3)))) (gNm 11) (gcT (toB (e2 cNe (eNew (lLc [12] (iLstV (eVar 4)) (gNm 12) (toB (e2 cIn (eVar 11) (eVar 12))) (eVar 12))) (eNew (lLst (aNil)))))) (eVar 11))) (gNm 5))
  (sSeq (sAsg (eTuple (lLc [11] (iRg1 (eLen (qV (eVar 3)))) (gNm 11) (tYesM) (gcE (eLen (lLc [13] (iLstV (e2 bIx (eC F__law_way (aCons (eVar 3) (aCons (eVar 11) (aNil)))) (eK (.int 0)))) (gNm 13) (toB (e2 cNin (eVar 13) (eVar 5))) (eVar 13)))))) (gNm 6))
  (sSeq (sIf (toB (e2 cNe (gcE (eReprL (lLst (aCons (eC F_depths (aCons (eVar 3) (aNil))) (aCons (eCK F_depths [0] aNil (aCons (eVar 3) (aNil))) (aNil)))))) (gcE (eReprL (lLst (aCons (eVar 6) (aCons (eVar 6) (aNil)))))))) (sRet (eK (.bl false))) (sNil))
  (sSeq (sPar [8, 9] (aCons (eInts maxL (qTV (eVar 6))) (aCons (eC F__law_least (aCons (eNew (lLc [12] (iLstV (eVar 4)) (gNm 12) (tYesM) (eLen (qV (eVar 12))))) (aNil))) (aNil))))
  (sSeq (sIf (toB (e2 cNe (gcE (eReprL (lLst (aCons (eC F_height (aCons (eVar 3) (aNil))) (aCons (eCK F_height [0] aNil (aCons (eVar 3) (aNil))) (aNil)))))) (gcE (eReprL (lLst (aCons (eVar 8) (aCons (eVar 8) (aNil)))))))) (sRet (eK (.bl false))) (sNil))
  (sSeq (sIf (toB (e2 cNe (gcE (eReprL (lLst (aCons (eC F_period (aCons (eVar 3) (aNil))) (aCons (eCK F_period [0] aNil (aCons (eVar 3) (aNil))) (aNil)))))) (gcE (eReprL (lLst (aCons (eVar 9) (aCons (eVar 9) (aNil)))))))) (sRet (eK (.bl false))) (sNil))
  (sSeq (sIf (tNotM (toB (eC F__law_places_right (aCons (eVar 3) (aCons (eVar 5) (aCons (eVar 6) (aNil))))))) (sRet (eK (.bl false))) (sNil))
  (sFor (iFresh (lLst (aCons (eK (.int 0)) (aCons (eVar 8) (aCons (e2 bMax (eK (.int 0)) (e2 bSub (eVar 8) (eK (.int 1)))) (aCons (e2 bAdd (eVar 8) (eK (.int 1))) (aCons (eC F__law_number (aCons (eVar 2) (aNil))) (aNil)))))))) (gNm 7) (sSeq (sAsg (eIf (toB (e2 cGe (eVar 7) (eVar 8))) (e2 bAdd (eVar 7) (eVar 9)) (eK .non)) (gNm 10))
  (sIf (toB (e2 cNe (gcE (eReprL (lLst (aCons (eC F_first_repeat (aCons (eVar 3) (aCons (eVar 7) (aNil)))) (aCons (eCK F_first_repeat [1, 0] aNil (aCons (eVar 7) (aCons (eVar 3) (aNil)))) (aNil)))))) (gcE (eReprL (lLst (aCons (eVar 10) (aCons (eVar 10) (aNil)))))))) (sRet (eK (.bl false))) (sNil)))))))))))))))
  (sRet (eK (.bl true)))
def F_law : FM := runF 1 14 b_law
end LW

namespace LW
open PySem L2 MM
theorem kit_ii : kitB "int" "int" = some true := by decide +kernel
theorem kit_ib : kitB "int" "bool" = some false := by decide +kernel
theorem kit_tt : kitB "tuple" "tuple" = some true := by decide +kernel
theorem f_is_integer (i : Int) (h : IH) : F_is_integer [.int i] h = .ok (.bl true) h := by
  refine F_same rfl ?_
  simp only [List.map_cons, List.map_nil, List.cons_append, List.nil_append, List.length_cons, List.length_nil, Nat.zero_add, Nat.sub_self, Nat.reduceAdd, Nat.reduceSub, List.replicate_zero, List.replicate_succ, sRet, sRetN, sSeq, sIf, sExpr, sNil, sAsg, sPar, gNm, eAnd, eOr, eNot, eIf, eC, eCK, eTup, lLst, eNew, aCons, aNil, e1, e2, eVar, eK, eChain, eTuple, eLen, qV, items, toB, tAndM, tOrM, tNotM, bAdd, bSub, uInt, uNeg, cLe, cLt, cGt, cGe, R.bind, RS.of, List.getElem?_cons_zero, List.getElem?_cons_succ, List.set_cons_zero, List.set_cons_succ, gSb, ixN20, ixN21, List.zip_cons_cons, List.zip_nil_left, List.foldl_cons, List.foldl_nil, wpS_nx, wpS_rt, okR_ok, if_true, Bool.not_false, Bool.not_true, and_self, Bool.false_eq_true, if_false, b_is_integer, uIsi, tyN, kit_ii, kit_ib]
theorem f_is_between (lo i hi : Int) (h : IH) (h1 : lo ≤ i) (h2 : i ≤ hi) : F_is_between [.int lo, .int i, .int hi] h = .ok (.bl true) h := by
  refine F_same rfl ?_
  simp only [List.map_cons, List.map_nil, List.cons_append, List.nil_append, List.length_cons, List.length_nil, Nat.zero_add, Nat.sub_self, Nat.reduceAdd, Nat.reduceSub, List.replicate_zero, List.replicate_succ, sRet, sRetN, sSeq, sIf, sExpr, sNil, sAsg, sPar, gNm, eAnd, eOr, eNot, eIf, eC, eCK, eTup, lLst, eNew, aCons, aNil, e1, e2, eVar, eK, eChain, eTuple, eLen, qV, items, toB, tAndM, tOrM, tNotM, bAdd, bSub, uInt, uNeg, cLe, cLt, cGt, cGe, R.bind, RS.of, List.getElem?_cons_zero, List.getElem?_cons_succ, List.set_cons_zero, List.set_cons_succ, gSb, ixN20, ixN21, List.zip_cons_cons, List.zip_nil_left, List.foldl_cons, List.foldl_nil, wpS_nx, wpS_rt, okR_ok, if_true, Bool.not_false, Bool.not_true, and_self, Bool.false_eq_true, if_false, b_is_between, f_is_integer, decide_eq_true h1, decide_eq_true h2]
/-- the two numbers from which a law draws -/
def Cup (k : Nat) (h : IH) : Prop := FlatH h ∧ ∃ a b : Int, h[k]? = some (.lst [.int a, .int b]) ∧ 0 ≤ a ∧ 0 ≤ b ∧ b < 2 ^ 32
def But (k : Nat) (h h' : IH) : Prop := h'.length = h.length ∧ ∀ j, j ≠ k → h'[j]? = h[j]?
theorem But.trans {k : Nat} {h h' h'' : IH} (a : But k h h') (b : But k h' h'') : But k h h'' := ⟨b.1.trans a.1, fun j hj => (b.2 j hj).trans (a.2 j hj)⟩
theorem But.set {k : Nat} (h : IH) (o : IO) : But k h (h.set k o) := ⟨List.length_set .., fun j hj => List.getElem?_set_ne (Ne.symm hj)⟩
theorem flat2 (a b : Int) : belows 0 [.int a, .int b] = true := rfl
theorem f_cup (c : Int) (h : IH) (f : FlatH h) : okR (F__law_cup [.int c] h) fun v h1 => v = .ref h.length ∧ Cup h.length h1 ∧ h1.length = h.length + 1 ∧ ∀ j, j < h.length → h1[j]? = h[j]? := by
  refine F_ret rfl ?_
  have hm : ∀ h1 : IH, bMod (.int c) (.int 2147483629) h1 = .ok (.int (c % 2147483629)) h1 := fun h1 => mod_ii (by decide)
  have go : ∀ a b : Int, 0 ≤ a → 0 ≤ b → b < 2 ^ 32 → okR (fin h.length (.ref h.length) (h ++ [.lst [.int a, .int b]])) fun v h1 => v = .ref h.length ∧ Cup h.length h1 ∧ h1.length = h.length + 1 ∧ ∀ j, j < h.length → h1[j]? = h[j]? := by
    intro a b ha hb hb2
    have at0 : (h ++ [IO.lst [.int a, .int b]])[h.length]? = some (.lst [.int a, .int b]) := by simp
    rw [fin_lst (f.app (flat2 a b)) at0 (Nat.le_refl _), List.take_left]
    exact .here ⟨rfl, ⟨f.app (flat2 a b), a, b, at0, ha, hb, hb2⟩, by simp, fun j hj => by rw [List.getElem?_append_left hj]⟩
  have z2 : 2 ≤ sizeLine := by decide
  by_cases hc : (1000000000000000000 : Int) ≤ c
  · simp only [List.map_cons, List.map_nil, List.cons_append, List.nil_append, List.length_cons, List.length_nil, Nat.zero_add, Nat.sub_self, Nat.reduceAdd, Nat.reduceSub, List.replicate_zero, List.replicate_succ, sRet, sRetN, sSeq, sIf, sExpr, sNil, sAsg, sPar, gNm, eAnd, eOr, eNot, eIf, eC, eCK, eTup, lLst, eNew, aCons, aNil, e1, e2, eVar, eK, eChain, eTuple, eLen, qV, items, toB, tAndM, tOrM, tNotM, bAdd, bSub, uInt, uNeg, cLe, cLt, cGt, cGe, R.bind, RS.of, List.getElem?_cons_zero, List.getElem?_cons_succ, List.set_cons_zero, List.set_cons_succ, gSb, ixN20, ixN21, List.zip_cons_cons, List.zip_nil_left, List.foldl_cons, List.foldl_nil, wpS_nx, wpS_rt, okR_ok, if_true, Bool.not_false, Bool.not_true, and_self, Bool.false_eq_true, if_false, b__law_cup, pow18, decide_eq_true hc, hm, if_pos z2]
    exact go _ _ (by omega) (by omega) (by omega)
  · simp only [List.map_cons, List.map_nil, List.cons_append, List.nil_append, List.length_cons, List.length_nil, Nat.zero_add, Nat.sub_self, Nat.reduceAdd, Nat.reduceSub, List.replicate_zero, List.replicate_succ, sRet, sRetN, sSeq, sIf, sExpr, sNil, sAsg, sPar, gNm, eAnd, eOr, eNot, eIf, eC, eCK, eTup, lLst, eNew, aCons, aNil, e1, e2, eVar, eK, eChain, eTuple, eLen, qV, items, toB, tAndM, tOrM, tNotM, bAdd, bSub, uInt, uNeg, cLe, cLt, cGt, cGe, R.bind, RS.of, List.getElem?_cons_zero, List.getElem?_cons_succ, List.set_cons_zero, List.set_cons_succ, gSb, ixN20, ixN21, List.zip_cons_cons, List.zip_nil_left, List.foldl_cons, List.foldl_nil, wpS_nx, wpS_rt, okR_ok, if_true, Bool.not_false, Bool.not_true, and_self, Bool.false_eq_true, if_false, b__law_cup, pow18, decide_eq_false hc, hm, if_pos z2]
    exact go _ _ (by omega) (by omega) (by omega)
theorem f_sip (k : Nat) (n : Int) (h : IH) (c : Cup k h) (hn : 1 ≤ n) (hn2 : n < 2 ^ 32) : okR (F__law_sip [.ref k, .int n] h) fun v h1 => ∃ d : Int, v = .int d ∧ 0 ≤ d ∧ d < n ∧ Cup k h1 ∧ But k h h1 := by
  obtain ⟨f, a, b, hk, ha, hb, hb2⟩ := c
  have hlk : k < h.length := (List.getElem?_eq_some_iff.mp hk).1
  have i0 := ix_0 hk
  have i1 := ix_1 hk
  have fin_ : ∀ (d a' b' : Int), 0 ≤ d → d < n → 0 ≤ a' → 0 ≤ b' → b' < 2 ^ 32 → okR (fin h.length (.int d) (h.set k (.lst [.int a', .int b']))) fun v h1 => ∃ d : Int, v = .int d ∧ 0 ≤ d ∧ d < n ∧ Cup k h1 ∧ But k h h1 := by
    intro d a' b' h1 h2 h3 h4 h5
    rw [fin_val (f.set (flat2 a' b')) rfl, List.take_of_length_le (by simp)]
    exact .here ⟨d, rfl, h1, h2, ⟨f.set (flat2 a' b'), a', b', by rw [List.getElem?_set_self hlk], h3, h4, h5⟩, .set h _⟩
  have nn : ∀ i : Int, 0 ≤ i % n ∧ i % n < n := fun i => ⟨Int.emod_nonneg _ (by omega), Int.emod_lt_of_pos _ (by omega)⟩
  refine F_ret rfl ?_
  by_cases h0 : 0 < a
  · have m0 : ∀ h1 : IH, bMod (.int a) (.int n) h1 = .ok (.int (a % n)) h1 := fun h1 => mod_ii (by omega)
    have d0 : ∀ h1 : IH, bDiv (.int a) (.int n) h1 = .ok (.int (a / n)) h1 := fun h1 => div_ii (by omega) (by omega)
    simp only [List.map_cons, List.map_nil, List.cons_append, List.nil_append, List.length_cons, List.length_nil, Nat.zero_add, Nat.sub_self, Nat.reduceAdd, Nat.reduceSub, List.replicate_zero, List.replicate_succ, sRet, sRetN, sSeq, sIf, sExpr, sNil, sAsg, sPar, gNm, eAnd, eOr, eNot, eIf, eC, eCK, eTup, lLst, eNew, aCons, aNil, e1, e2, eVar, eK, eChain, eTuple, eLen, qV, items, toB, tAndM, tOrM, tNotM, bAdd, bSub, uInt, uNeg, cLe, cLt, cGt, cGe, R.bind, RS.of, List.getElem?_cons_zero, List.getElem?_cons_succ, List.set_cons_zero, List.set_cons_succ, gSb, ixN20, ixN21, List.zip_cons_cons, List.zip_nil_left, List.foldl_cons, List.foldl_nil, wpS_nx, wpS_rt, okR_ok, if_true, Bool.not_false, Bool.not_true, and_self, Bool.false_eq_true, if_false, b__law_sip, i0, decide_eq_true h0, m0, d0, hk]
    exact fin_ _ _ _ (nn a).1 (nn a).2 (Int.ediv_nonneg (by omega) (by omega)) hb hb2
  · have q1 : ∀ h1 : IH, bMul (.int b) (.int 69621) h1 = .ok (.int (b * 69621)) h1 := fun h1 => mul_ii (by omega) (by omega)
    have q2 : ∀ h1 : IH, bMod (.int (b * 69621)) (.int 2147483647) h1 = .ok (.int (b * 69621 % 2147483647)) h1 := fun h1 => mod_ii (by decide)
    generalize hb' : b * 69621 % 2147483647 = b' at q2
    have p1 : 0 ≤ b' := by rw [← hb']; exact Int.emod_nonneg _ (by decide)
    have p2 : b' < 2147483647 := by rw [← hb']; exact Int.emod_lt_of_pos _ (by decide)
    have hk1 : (h.set k (.lst [.int a, .int b']))[k]? = some (.lst [.int a, .int b']) := by rw [List.getElem?_set_self hlk]
    have i2 := ix_1 hk1
    have q3 : ∀ h1 : IH, bMul (.int b') (.int b') h1 = .ok (.int (b' * b')) h1 := fun h1 => mul_ii (by omega) (by omega)
    have q4 : ∀ h1 : IH, bMod (.int (b' * b')) (.int 2147483629) h1 = .ok (.int (b' * b' % 2147483629)) h1 := fun h1 => mod_ii (by decide)
    have q5 : ∀ h1 : IH, bDiv (.int (b' * b' % 2147483629)) (.int 32) h1 = .ok (.int (b' * b' % 2147483629 / 32)) h1 := fun h1 => div_ii (by decide) (by decide)
    have q6 : ∀ h1 : IH, bMod (.int (b' * b' % 2147483629 / 32)) (.int n) h1 = .ok (.int (b' * b' % 2147483629 / 32 % n)) h1 := fun h1 => mod_ii (by omega)
    simp only [List.map_cons, List.map_nil, List.cons_append, List.nil_append, List.length_cons, List.length_nil, Nat.zero_add, Nat.sub_self, Nat.reduceAdd, Nat.reduceSub, List.replicate_zero, List.replicate_succ, sRet, sRetN, sSeq, sIf, sExpr, sNil, sAsg, sPar, gNm, eAnd, eOr, eNot, eIf, eC, eCK, eTup, lLst, eNew, aCons, aNil, e1, e2, eVar, eK, eChain, eTuple, eLen, qV, items, toB, tAndM, tOrM, tNotM, bAdd, bSub, uInt, uNeg, cLe, cLt, cGt, cGe, R.bind, RS.of, List.getElem?_cons_zero, List.getElem?_cons_succ, List.set_cons_zero, List.set_cons_succ, gSb, ixN20, ixN21, List.zip_cons_cons, List.zip_nil_left, List.foldl_cons, List.foldl_nil, wpS_nx, wpS_rt, okR_ok, if_true, Bool.not_false, Bool.not_true, and_self, Bool.false_eq_true, if_false, b__law_sip, i0, decide_eq_false h0, i1, q1, q2, hk, i2, q3, q4, q5, q6]
    exact fin_ _ _ _ (nn _).1 (nn _).2 ha p1 (by omega)
theorem f_is_chart {n : Int} {xs : List Int} (c : Ch n xs) (h : IH) : F_is_chart [.tup (iz xs)] h = .ok (.bl true) h := by
  have h1 := c.lo
  have h2 := c.hi
  have h3 := c.len
  have hc : lLc [1] (iTup (eVar 0)) (gNm 1) tYesM (eC F_is_between (aCons (eK (.int 0)) (aCons (eVar 1) (aCons (e2 bSub (eLen (qV (eVar 0))) (eK (.int 1))) (aNil))))) [some (.tup (iz xs)), none] h = .ok ((xs.map fun _ => true).map .bl) h := by
    refine lLc_map (it_tup (xs := iz xs) rfl) rfl (by omega) fun x hx => ⟨_, rfl, ?_⟩
    have hm := c.mem x hx
    have hb := f_is_between 0 x ((xs.length : Int) - 1) h (by omega) (by omega)
    simp only [List.map_cons, List.map_nil, List.cons_append, List.nil_append, List.length_cons, List.length_nil, Nat.zero_add, Nat.sub_self, Nat.reduceAdd, Nat.reduceSub, List.replicate_zero, List.replicate_succ, sRet, sRetN, sSeq, sIf, sExpr, sNil, sAsg, sPar, gNm, eAnd, eOr, eNot, eIf, eC, eCK, eTup, lLst, eNew, aCons, aNil, e1, e2, eVar, eK, eChain, eTuple, eLen, qV, items, toB, tAndM, tOrM, tNotM, bAdd, bSub, uInt, uNeg, cLe, cLt, cGt, cGe, R.bind, RS.of, List.getElem?_cons_zero, List.getElem?_cons_succ, List.set_cons_zero, List.set_cons_succ, gSb, ixN20, ixN21, List.zip_cons_cons, List.zip_nil_left, List.foldl_cons, List.foldl_nil, wpS_nx, wpS_rt, okR_ok, if_true, Bool.not_false, Bool.not_true, and_self, Bool.false_eq_true, if_false, wipeE, List.length_map, hb]
  have hb := bls_run (g := (·.all id)) hc
  refine F_same rfl (w_seq (w_if (okR.of (a := false) (h := h) ?_ ?_)))
  · have q1 : decide ((1 : Int) ≤ (xs.length : Int)) = true := decide_eq_true (by omega)
    have q2 : decide ((xs.length : Int) ≤ 10) = true := decide_eq_true (by omega)
    simp only [List.map_cons, List.map_nil, List.cons_append, List.nil_append, List.length_cons, List.length_nil, Nat.zero_add, Nat.sub_self, Nat.reduceAdd, Nat.reduceSub, List.replicate_zero, List.replicate_succ, sRet, sRetN, sSeq, sIf, sExpr, sNil, sAsg, sPar, gNm, eAnd, eOr, eNot, eIf, eC, eCK, eTup, lLst, eNew, aCons, aNil, e1, e2, eVar, eK, eChain, eTuple, eLen, qV, items, toB, tAndM, tOrM, tNotM, bAdd, bSub, uInt, uNeg, cLe, cLt, cGt, cGe, R.bind, RS.of, List.getElem?_cons_zero, List.getElem?_cons_succ, List.set_cons_zero, List.set_cons_succ, gSb, ixN20, ixN21, List.zip_cons_cons, List.zip_nil_left, List.foldl_cons, List.foldl_nil, wpS_nx, wpS_rt, okR_ok, if_true, Bool.not_false, Bool.not_true, and_self, Bool.false_eq_true, if_false, uIsi, tyN, kit_tt, List.length_map, q1, q2]
  · rw [if_neg (by decide)]
    refine w_nil (w_ret (okR.of hb ?_))
    exact ⟨by simp, rfl⟩
theorem f_check_chart {n : Int} {xs : List Int} (c : Ch n xs) (h : IH) : F_check_chart [.tup (iz xs)] h = .ok .non h := by
  refine F_same rfl ?_
  simp only [List.map_cons, List.map_nil, List.cons_append, List.nil_append, List.length_cons, List.length_nil, Nat.zero_add, Nat.sub_self, Nat.reduceAdd, Nat.reduceSub, List.replicate_zero, List.replicate_succ, sRet, sRetN, sSeq, sIf, sExpr, sNil, sAsg, sPar, gNm, eAnd, eOr, eNot, eIf, eC, eCK, eTup, lLst, eNew, aCons, aNil, e1, e2, eVar, eK, eChain, eTuple, eLen, qV, items, toB, tAndM, tOrM, tNotM, bAdd, bSub, uInt, uNeg, cLe, cLt, cGt, cGe, R.bind, RS.of, List.getElem?_cons_zero, List.getElem?_cons_succ, List.set_cons_zero, List.set_cons_succ, gSb, ixN20, ixN21, List.zip_cons_cons, List.zip_nil_left, List.foldl_cons, List.foldl_nil, wpS_nx, wpS_rt, okR_ok, if_true, Bool.not_false, Bool.not_true, and_self, Bool.false_eq_true, if_false, b_check_chart, f_is_chart c]
theorem f_check_place {n p : Int} (h : IH) (h1 : 0 ≤ p) (h2 : p < n) : F_check_place [.int n, .int p] h = .ok .non h := by
  refine F_same rfl ?_
  have hb := f_is_between 0 p (n - 1) h h1 (by omega)
  simp only [List.map_cons, List.map_nil, List.cons_append, List.nil_append, List.length_cons, List.length_nil, Nat.zero_add, Nat.sub_self, Nat.reduceAdd, Nat.reduceSub, List.replicate_zero, List.replicate_succ, sRet, sRetN, sSeq, sIf, sExpr, sNil, sAsg, sPar, gNm, eAnd, eOr, eNot, eIf, eC, eCK, eTup, lLst, eNew, aCons, aNil, e1, e2, eVar, eK, eChain, eTuple, eLen, qV, items, toB, tAndM, tOrM, tNotM, bAdd, bSub, uInt, uNeg, cLe, cLt, cGt, cGe, R.bind, RS.of, List.getElem?_cons_zero, List.getElem?_cons_succ, List.set_cons_zero, List.set_cons_succ, gSb, ixN20, ixN21, List.zip_cons_cons, List.zip_nil_left, List.foldl_cons, List.foldl_nil, wpS_nx, wpS_rt, okR_ok, if_true, Bool.not_false, Bool.not_true, and_self, Bool.false_eq_true, if_false, b_check_place, hb]
theorem Cup.flat {k : Nat} {h : IH} (c : Cup k h) : FlatH h := c.1
theorem Cup.lt {k : Nat} {h : IH} (c : Cup k h) : k < h.length := by
  obtain ⟨_, a, b, hk, _⟩ := c
  exact (List.getElem?_eq_some_iff.mp hk).1
theorem Cup.at_ {k : Nat} {h h' : IH} (c : Cup k h) (f : FlatH h') (e : h'[k]? = h[k]?) : Cup k h' := by
  obtain ⟨_, a, b, hk, q⟩ := c
  exact ⟨f, a, b, by rw [e]; exact hk, q⟩
theorem row_of {n : Int} {rs : List Int} (h1 : 1 ≤ n) (h2 : n ≤ 10) (p : rs.Perm (rng n)) : Row n rs :=
  ⟨⟨by rw [p.length_eq, rng_len]; omega, h1, h2, fun x hx => rng_mem.mp (p.mem_iff.mp hx)⟩, p.nodup_iff.mpr ((rng_sorted n).imp fun h => Int.ne_of_lt h)⟩
theorem f_row (k : Nat) (n : Int) (h : IH) (c : Cup k h) (hn : 1 ≤ n) (hn2 : n ≤ 10) : okR (F__law_row [.ref k, .int n] h) fun v h1 => ∃ rs h2, v = .ref h.length ∧ h1 = h2 ++ [.lst (iz rs)] ∧ Row n rs ∧ Cup k h2 ∧ But k h h2 := by
  have hlk := c.lt
  refine F_retE (F := F__law_row) rfl rfl ?_
  show wpS (b__law_row [some (.ref k), some (.int n), none, none] h) _ _
  unfold b__law_row
  have z0 : 0 ≤ sizeLine := Nat.zero_le _
  have i1 : eNew (lRg1 (eVar 1)) [some (.ref k), some (.int n), none, none] h = .ok (.ref h.length) (h ++ [.lst (iz (rng n))]) := by
    show (R.bind (if rgOk 0 n = true then R.ok (lRange 0 n) h else .bad) fun xs h1 => R.ok (IV.ref h1.length) (h1 ++ [.lst xs])) = _
    rw [if_pos (rgOk_of (by omega) (by omega)), lRange_rng]
    rfl
  refine w_seq (w_par (okR.of (a := [.ref h.length, .ref (h.length + 1)]) (h := (h ++ [.lst (iz (rng n))]) ++ [.lst []]) ?_ ⟨rfl, ?_⟩))
  · refine aCons_run i1 (aCons_run ?_ rfl)
    have := eNew_run (f := lLst aNil) (e := [some (.ref k), some (.int n), none, none]) (h := h ++ [.lst (iz (rng n))]) (h1 := h ++ [.lst (iz (rng n))]) (xs := []) (lst_run rfl (Nat.zero_le _))
    rw [List.length_append, List.length_singleton] at this
    exact this
  show wpS (sSeq _ _ [some (.ref k), some (.int n), some (.ref h.length), some (.ref (h.length + 1))] _) _ _
  refine w_seq (w_while (fun m e h1 => ∃ ls rs, e = [some (.ref k), some (.int n), some (.ref h.length), some (.ref (h.length + 1))] ∧ Cup k h1 ∧ h1.length = h.length + 2 ∧ h1[h.length]? = some (.lst (iz ls)) ∧ h1[h.length + 1]? = some (.lst (iz rs)) ∧ (ls ++ rs).Perm (rng n) ∧ m = ls.length ∧ ∀ j, j < h.length → j ≠ k → h1[j]? = h[j]?) 
    n.toNat (by omega) ⟨rng n, [], rfl, ?_, ?_, ?_, ?_, ?_, ?_, ?_⟩ ?_)
  · exact c.at_ ((c.flat.app (ints_below 0 _)).app rfl) (by rw [List.getElem?_append_left (by rw [List.length_append]; omega), List.getElem?_append_left hlk])
  · simp
  · rw [List.append_assoc, List.getElem?_append_right (Nat.le_refl _), Nat.sub_self]; rfl
  · rw [List.append_assoc, List.getElem?_append_right (Nat.le_succ _), show h.length.succ - h.length = 1 by omega]; rfl
  · rw [List.append_nil]
  · rw [rng_len]
  · intro j hj _
    rw [List.append_assoc, List.getElem?_append_left hj]
  · rintro m e h1 ⟨ls, rs, rfl, c1, l1, a1, a2, p, rfl, hj⟩
    have pl : ls.length + rs.length = n.toNat := by rw [← List.length_append, p.length_eq, rng_len]
    have lm : ∀ x ∈ ls, 0 ≤ x ∧ x < n := fun x hx => rng_mem.mp (p.mem_iff.mp (List.mem_append_left _ hx))
    refine okR.of (ne_nil_run rfl a1 c1.flat (by omega) fun x hx => ?_) ?_
    · have := lm x hx
      have e : (10 : Nat) ^ 12 = 1000000000000 := by decide
      omega
    · cases hl : ls with
      | nil =>
        rw [List.isEmpty_nil, Bool.not_true, if_neg (by decide)]
        refine w_ret (okR.of (a := .ref (h.length + 1)) (h := h1) rfl ?_)
        rw [fin_lst c1.flat a2 (Nat.le_succ _)]
        rw [hl, List.nil_append] at p
        refine .here ⟨rs, h1.take h.length, rfl, rfl, row_of hn hn2 p, c1.at_ (c1.flat.cut _) (by rw [List.getElem?_take_of_lt hlk]), ?_, fun j hjk => ?_⟩
        · rw [List.length_take]; omega
        · by_cases hjl : j < h.length
          · rw [List.getElem?_take_of_lt hjl]; exact hj j hjl hjk
          · rw [List.getElem?_eq_none (by rw [List.length_take]; omega), List.getElem?_eq_none (by omega)]
      | cons y ys =>
        rw [List.isEmpty_cons, Bool.not_false, if_pos rfl, ← hl]
        have hpos : 0 < ls.length := by rw [hl]; simp
        refine ⟨hpos, ?_⟩
        obtain ⟨v, h2, eq, d, rfl, d0, d1, c2, b2⟩ := (f_sip k ls.length h1 c1 (by omega) (by omega)).get
        have hdl : d.toNat < ls.length := by omega
        have b21 : h2[h.length]? = some (.lst (iz ls)) := (b2.2 _ (by omega)).trans a1
        have b22 : h2[h.length + 1]? = some (.lst (iz rs)) := (b2.2 _ (by omega)).trans a2
        have l2 : h2.length = h.length + 2 := b2.1.trans l1
        have sip : eC F__law_sip (aCons (eVar 0) (aCons (eLen (qV (eVar 2))) aNil)) [some (.ref k), some (.int n), some (.ref h.length), some (.ref (h.length + 1))] h1 = .ok (.int d) h2 := by
          refine eC_run (vs := [.ref k, .int ls.length]) ?_ eq
          simp only [List.map_cons, List.map_nil, List.cons_append, List.nil_append, List.length_cons, List.length_nil, Nat.zero_add, Nat.sub_self, Nat.reduceAdd, Nat.reduceSub, List.replicate_zero, List.replicate_succ, sRet, sRetN, sSeq, sIf, sExpr, sNil, sAsg, sPar, gNm, eAnd, eOr, eNot, eIf, eC, eCK, eTup, lLst, eNew, aCons, aNil, e1, e2, eVar, eK, eChain, eTuple, eLen, qV, items, toB, tAndM, tOrM, tNotM, bAdd, bSub, uInt, uNeg, cLe, cLt, cGt, cGe, R.bind, RS.of, List.getElem?_cons_zero, List.getElem?_cons_succ, List.set_cons_zero, List.set_cons_succ, gSb, ixN20, ixN21, List.zip_cons_cons, List.zip_nil_left, List.foldl_cons, List.foldl_nil, wpS_nx, wpS_rt, okR_ok, if_true, Bool.not_false, Bool.not_true, and_self, Bool.false_eq_true, if_false, a1, List.length_map]
        have pop : mPop (.ref h.length) [.int d] h2 = .ok (.int ls[d.toNat]) (h2.set h.length (.lst ((iz ls).eraseIdx d.toNat))) := by
          have s1 : seqIndex? d (iz ls).length = some d.toNat := (ixN_seq (j := d.toNat) (by unfold ixN; rw [if_pos d0, if_pos (by rw [List.length_map]; omega)])).1
          have s2 : (iz ls)[d.toNat]? = some (.int ls[d.toNat]) := by rw [List.getElem?_map, List.getElem?_eq_getElem hdl]; rfl
          have s3 : -(2 ^ 63) ≤ d ∧ d < 2 ^ 63 := by omega
          simp only [mPop, b21, if_pos s3, s1, s2]
        generalize hx : ls[d.toNat] = x at pop
        have app : mAppend (.ref (h.length + 1)) [.int x] (h2.set h.length (.lst ((iz ls).eraseIdx d.toNat))) = .ok .non ((h2.set h.length (.lst ((iz ls).eraseIdx d.toNat))).set (h.length + 1) (.lst (iz rs ++ [.int x]))) := by
          have s1 : (h2.set h.length (.lst ((iz ls).eraseIdx d.toNat)))[h.length + 1]? = some (.lst (iz rs)) := by rw [List.getElem?_set_ne (by omega)]; exact b22
          have s2 : (iz rs).length < sizeLine := by
            rw [List.length_map]
            exact Nat.lt_of_lt_of_le (by omega : rs.length < 2 ^ 20) (by decide)
          simp only [mAppend, s1, if_pos s2]
        have e1 : (iz ls).eraseIdx d.toNat = iz (ls.eraseIdx d.toNat) := erase_map ls _
        have e2 : iz rs ++ [IV.int x] = iz (rs ++ [x]) := by rw [iz, iz, List.map_append]; rfl
        have hg : (h2.set h.length (.lst (iz (ls.eraseIdx d.toNat)))).set (h.length + 1) (.lst (iz (rs ++ [x]))) = (h2.set h.length (.lst (iz (ls.eraseIdx d.toNat)))).set (h.length + 1) (.lst (iz (rs ++ [x]))) := rfl
        rw [e1] at pop app
        rw [e2] at app
        refine w_expr (okR.of (a := .non) (h := (h2.set h.length (.lst (iz (ls.eraseIdx d.toNat)))).set (h.length + 1) (.lst (iz (rs ++ [x])))) ?_ ⟨ls.length - 1, by omega, ls.eraseIdx d.toNat, rs ++ [x], rfl, ?_, ?_, ?_, ?_, ?_, ?_, ?_⟩)
        · have m1 : eMth mPop (eVar 2) (aCons (eC F__law_sip (aCons (eVar 0) (aCons (eLen (qV (eVar 2))) aNil))) aNil) [some (.ref k), some (.int n), some (.ref h.length), some (.ref (h.length + 1))] h1 = .ok (.int x) (h2.set h.length (.lst (iz (ls.eraseIdx d.toNat)))) := by
            exact eMth_run (k := h.length) rfl a1 (aCons_run sip rfl) pop
          exact eMth_run (k := h.length + 1) rfl a2 (aCons_run m1 rfl) app
        · refine c2.at_ ((c2.flat.set (ints_below 0 _)).set (ints_below 0 _)) ?_
          rw [List.getElem?_set_ne (by omega), List.getElem?_set_ne (by omega)]
        · rw [List.length_set, List.length_set]; exact l2
        · rw [List.getElem?_set_ne (by omega), List.getElem?_set_self (by omega)]
        · rw [List.getElem?_set_self (by rw [List.length_set]; omega)]
        · have q : (x :: ls.eraseIdx d.toNat).Perm ls := by rw [← hx]; exact perm_erase ls _ hdl
          refine List.Perm.trans ?_ p
          rw [← List.append_assoc]
          refine (List.perm_append_comm (l₁ := ls.eraseIdx d.toNat ++ rs) (l₂ := [x])).trans ?_
          exact (q.append_right rs)
        · rw [List.length_eraseIdx_of_lt hdl]
        · intro j hj1 hj2
          rw [List.getElem?_set_ne (by omega), List.getElem?_set_ne (by omega), b2.2 j hj2]
          exact hj j hj1 hj2
theorem get_ref {k : Nat} {h : IH} {xs : List Int} {i : Int} (hk : h[k]? = some (.lst (iz xs))) (h1 : 0 ≤ i) (h2 : i < xs.length) : bIx (.ref k) (.int i) h = .ok (.int (geti xs i)) h := ix_ref hk h1 h2
theorem Cup.sub {k : Nat} {h h' : IH} (c : Cup k h) (l : Nat) (hl : k < l) (f : FlatH h') (q : ∀ j, j < l → j ≠ k → h'[j]? = h[j]?) (c' : Cup k h') : Cup k (h'.take l) := c'.at_ (f.cut _) (by rw [List.getElem?_take_of_lt hl])
theorem f_chart (k : Nat) (n : Int) (h : IH) (c : Cup k h) (hn : 1 ≤ n) (hn2 : n ≤ 10) : okR (F__law_chart [.ref k, .int n] h) fun v h1 => ∃ xs, v = .tup (iz xs) ∧ Ch n xs ∧ Cup k h1 ∧ But k h h1 := by
  have hlk := c.lt
  obtain ⟨v, g1, q1, way, rfl, w0, w1, c1, b1⟩ := (f_sip k 4 h c (by decide) (by decide)).get
  obtain ⟨v, g2', q2, rs, g2, rfl, rfl, rw_, c2, b2⟩ := (f_row k n g1 c1 hn hn2).get
  have lg : g2.length = h.length := b2.1.trans b1.1
  have lg1 : g1.length = h.length := b1.1
  have hrs := rw_.ch.len
  refine F_retE (F := F__law_chart) rfl rfl ?_
  show wpS (b__law_chart [some (.ref k), some (.int n), none, none, none, none, none] h) _ _
  unfold b__law_chart
  refine w_seq (w_par (okR.of (a := [.int way, .ref h.length]) (h := g2 ++ [.lst (iz rs)]) ?_ ⟨rfl, ?_⟩))
  · rw [lg1] at q2
    exact aCons_run (eC_run (vs := [.ref k, .int 4]) rfl q1) (aCons_run (eC_run (vs := [.ref k, .int n]) rfl q2) rfl)
  show wpS (sSeq _ _ [some (.ref k), some (.int n), none, none, some (.int way), some (.ref h.length), none] _) _ _
  have rep := lrep_run (f := lLst (aCons (eK (.int 0)) aNil)) (g := eVar 1) (e := [some (.ref k), some (.int n), none, none, some (.int way), some (.ref h.length), none]) (h := g2 ++ [.lst (iz rs)]) (v := .int 0) (n := n) (lst_run rfl (by decide)) rfl (by omega) (by omega)
  have nw := eNew_run rep
  rw [List.length_append, List.length_singleton, lg] at nw
  have zz : List.replicate n.toNat (IV.int 0) = iz (List.replicate n.toNat 0) := by rw [iz, List.map_replicate]
  rw [zz] at nw
  refine w_seq (w_asg (okR.of nw ⟨_, _, rfl, ?_⟩))
  show wpS (sSeq _ _ [some (.ref k), some (.int n), some (.ref (h.length + 1)), none, some (.int way), some (.ref h.length), none] _) _ _
  refine w_seq (w_for (fun j e h1 => ∃ fs a b, e = [some (.ref k), some (.int n), some (.ref (h.length + 1)), a, some (.int way), some (.ref h.length), b] ∧ Cup k h1 ∧ h1.length = h.length + 2 ∧ h1[h.length]? = some (.lst (iz rs)) ∧ h1[h.length + 1]? = some (.lst (iz fs)) ∧ Ch n fs ∧ ∀ j, j < h.length → j ≠ k → h1[j]? = h[j]?)
    (it_rg1 (n := n) rfl (by omega) (by omega)) ⟨List.replicate n.toNat 0, _, _, rfl, ?_, ?_, ?_, ?_, ?_, ?_⟩ (fun _ _ _ _ _ => rfl) ?_ ?_)
  · exact c2.at_ ((c2.flat.app (ints_below 0 _)).app (ints_below 0 _)) (by rw [List.getElem?_append_left (by rw [List.length_append]; omega), List.getElem?_append_left (by omega)])
  · simp [lg]
  · rw [List.append_assoc, List.getElem?_append_right (by omega), lg, Nat.sub_self]; rfl
  · rw [List.append_assoc, List.getElem?_append_right (by omega), lg, show h.length + 1 - h.length = 1 by omega]; rfl
  · refine ⟨by rw [List.length_replicate]; omega, hn, hn2, fun x hx => ?_⟩
    have := List.eq_of_mem_replicate hx
    omega
  · intro j hj hjk
    rw [List.append_assoc, List.getElem?_append_left (by omega), b2.2 j hjk, b1.2 j hjk]
  · rintro i hi e h1 ⟨fs, a, b, rfl, c3, l3, a1, a2, fc, hj⟩
    rw [List.length_map, rng_len] at hi
    have ei : (iz (rng n))[i]'(by rw [List.length_map, rng_len]; exact hi) = .int i := by
      rw [List.getElem_map, rng_get]
    rw [ei]
    refine ⟨[some (.ref k), some (.int n), some (.ref (h.length + 1)), some (.int i), some (.int way), some (.ref h.length), b], h1, rfl, ?_⟩
    -- what is kept
    have keep : ∀ h2, But k h1 h2 → h2.length = h.length + 2 ∧ h2[h.length]? = some (.lst (iz rs)) ∧ h2[h.length + 1]? = some (.lst (iz fs)) ∧ ∀ j, j < h.length → j ≠ k → h2[j]? = h[j]? := fun h2 b =>
      ⟨b.1.trans l3, (b.2 _ (by omega)).trans a1, (b.2 _ (by omega)).trans a2, fun j h1 h2 => (b.2 j h2).trans (hj j h1 h2)⟩
    obtain ⟨v, h2, q3, t, rfl, t0, t1, c4, b4⟩ := (f_sip k n h1 c3 hn (by omega)).get
    refine w_seq (w_asg (okR.of (eC_run (vs := [.ref k, .int n]) rfl q3) ⟨[some (.ref k), some (.int n), some (.ref (h.length + 1)), some (.int i), some (.int way), some (.ref h.length), some (.int t)], h2, rfl, ?_⟩))
    -- a choice: the place stays one of the places
    have cond : ∀ (z : Int) (m : Int) (t : Int) (h2 : IH), 1 ≤ m → m < 100 → Cup k h2 → But k h1 h2 → okR (tAndM (toB (e2 cEq (eVar 4) (eK (.int z)))) (tAndM (toB (e2 cGt (eVar 3) (eK (.int 0)))) (toB (e2 cGt (eC F__law_sip (aCons (eVar 0) (aCons (eK (.int m)) aNil))) (eK (.int 0)))))
        [some (.ref k), some (.int n), some (.ref (h.length + 1)), some (.int i), some (.int way), some (.ref h.length), some (.int t)] h2) fun b h3 => Cup k h3 ∧ But k h1 h3 ∧ (b = true → 0 < i) := by
      intro z m t h2 hm hm2 c5 b5
      refine w_and (okR.of (a := decide (way = z)) (h := h2) rfl ⟨fun _ => ?_, fun _ => ⟨c5, b5, by simp⟩⟩)
      refine w_and (okR.of (a := decide ((0 : Int) < i)) (h := h2) rfl ⟨fun hi => ?_, fun _ => ⟨c5, b5, by simp⟩⟩)
      obtain ⟨v, h3, q4, d, rfl, d0, d1, c6, b6⟩ := (f_sip k m h2 c5 hm (by omega)).get
      refine okR.of (a := decide ((0 : Int) < d)) (h := h3) ?_ ⟨c6, b5.trans b6, fun _ => by simpa using hi⟩
      exact toB_run' (e2_run' (eC_run (vs := [.ref k, .int m]) rfl q4) rfl rfl)
    -- the end of the step
    have last : ∀ (t : Int) (h3 : IH), 0 ≤ t → t < n → Cup k h3 → But k h1 h3 → wpS (sAsg (e2 bIx (eVar 5) (eVar 6)) (gSb (eVar 2) (e2 bIx (eVar 5) (eVar 3))) [some (.ref k), some (.int n), some (.ref (h.length + 1)), some (.int i), some (.int way), some (.ref h.length), some (.int t)] h3)
        (fun e h1 => ∃ fs a b, e = [some (.ref k), some (.int n), some (.ref (h.length + 1)), a, some (.int way), some (.ref h.length), b] ∧ Cup k h1 ∧ h1.length = h.length + 2 ∧ h1[h.length]? = some (.lst (iz rs)) ∧ h1[h.length + 1]? = some (.lst (iz fs)) ∧ Ch n fs ∧ ∀ j, j < h.length → j ≠ k → h1[j]? = h[j]?) (fun u h1_1 => okR (fin (List.length h) u h1_1) fun v h1 => ∃ xs, v = IV.tup (iz xs) ∧ Ch n xs ∧ Cup k h1 ∧ But k h h1) := by
      intro t h3 t0 t1 c5 b5
      obtain ⟨k1, k2, k3, k4⟩ := keep h3 b5
      have x1 := get_ref (i := t) k2 t0 (by omega)
      have x2 := get_ref (i := (i : Int)) k2 (by omega) (by omega)
      have r1 := rw_.ch.get (i := t) t0 (by omega)
      have r2 := rw_.ch.get (i := (i : Int)) (by omega) (by omega)
      have fl := fc.len
      refine w_asg (okR.of (e2_run' rfl rfl x1) ⟨_, _, gsb_ref (k := h.length + 1) (xs := iz fs) rfl (e2_run' rfl rfl x2) k3 r2.1 (by rw [List.length_map]; omega), fs.set (geti rs i).toNat (geti rs t), _, _, rfl, ?_, ?_, ?_, ?_, ?_, ?_⟩)
      · have e1 : (iz fs).set (geti rs i).toNat (.int (geti rs t)) = iz (fs.set (geti rs i).toNat (geti rs t)) := (List.map_set ..).symm
        rw [e1]
        exact c5.at_ (c5.flat.set (ints_below 0 _)) (by rw [List.getElem?_set_ne (by omega)])
      · rw [List.length_set]; exact k1
      · rw [List.getElem?_set_ne (by omega)]; exact k2
      · rw [List.getElem?_set_self (by omega)]
        congr 2
        exact (List.map_set ..).symm
      · refine ⟨by rw [List.length_set]; exact fl, hn, hn2, fun x hx => ?_⟩
        rcases List.mem_or_eq_of_mem_set hx with q | q
        · exact fc.mem x q
        · rw [q]; exact r1
      · intro j h1 h2
        rw [List.getElem?_set_ne (by omega)]
        exact k4 j h1 h2
    obtain ⟨b, h3, q4, c5, b5, bi⟩ := (cond 2 5 t h2 (by decide) (by decide) c4 b4).get
    have mid : ∀ (t : Int), 0 ≤ t → t < n → wpS (sSeq (sIf (tAndM (toB (e2 cEq (eVar 4) (eK (.int 3)))) (tAndM (toB (e2 cGt (eVar 3) (eK (.int 0)))) (toB (e2 cGt (eC F__law_sip (aCons (eVar 0) (aCons (eK (.int 4)) (aNil)))) (eK (.int 0)))))) (sAsg (e2 bMod (eVar 6) (e2 bAdd (eK (.int 1)) (e2 bDiv (eVar 3) (eK (.int 3))))) (gNm 6)) (sNil))
        (sAsg (e2 bIx (eVar 5) (eVar 6)) (gSb (eVar 2) (e2 bIx (eVar 5) (eVar 3)))) [some (.ref k), some (.int n), some (.ref (h.length + 1)), some (.int i), some (.int way), some (.ref h.length), some (.int t)] h3)
        (fun e h1 => ∃ fs a b, e = [some (.ref k), some (.int n), some (.ref (h.length + 1)), a, some (.int way), some (.ref h.length), b] ∧ Cup k h1 ∧ h1.length = h.length + 2 ∧ h1[h.length]? = some (.lst (iz rs)) ∧ h1[h.length + 1]? = some (.lst (iz fs)) ∧ Ch n fs ∧ ∀ j, j < h.length → j ≠ k → h1[j]? = h[j]?) (fun u h1_1 => okR (fin (List.length h) u h1_1) fun v h1 => ∃ xs, v = IV.tup (iz xs) ∧ Ch n xs ∧ Cup k h1 ∧ But k h h1) := by
      intro t t0 t1
      obtain ⟨b, h4, q5, c6, b6, bi⟩ := (cond 3 4 t h3 (by decide) (by decide) c5 b5).get
      refine w_seq (w_if (okR.of q5 ?_))
      cases b with
      | true =>
        rw [if_pos rfl]
        have hi0 := bi rfl
        have dv : bDiv (.int i) (.int 3) h4 = .ok (.int ((i : Int) / 3)) h4 := div_ii (by decide) (by decide)
        have md : bMod (.int t) (.int (1 + (i : Int) / 3)) h4 = .ok (.int (t % (1 + (i : Int) / 3))) h4 := mod_ii (by omega)
        have m0 : 0 ≤ t % (1 + (i : Int) / 3) := Int.emod_nonneg _ (by omega)
        have m1 : t % (1 + (i : Int) / 3) < 1 + (i : Int) / 3 := Int.emod_lt_of_pos _ (by omega)
        generalize t % (1 + (i : Int) / 3) = t' at md m0 m1
        refine w_asg (okR.of (e2_run' rfl (e2_run' rfl (e2_run' rfl rfl dv) rfl) md) ⟨_, _, rfl, ?_⟩)
        exact last t' h4 m0 (by omega) c6 b6
      | false =>
        rw [if_neg (by decide)]
        exact w_nil (last t h4 t0 t1 c6 b6)
    refine w_seq (w_if (okR.of q4 ?_))
    cases b with
    | true =>
      rw [if_pos rfl]
      have hi0 := bi rfl
      refine w_asg (okR.of (a := .int ((i : Int) - 1)) (h := h3) rfl ⟨_, _, rfl, ?_⟩)
      exact mid ((i : Int) - 1) (by omega) (by omega)
    | false =>
      rw [if_neg (by decide)]
      exact w_nil (mid t t0 t1)
  · rintro e h1 ⟨fs, a, b, rfl, c3, l3, a1, a2, fc, hj⟩
    have fin_ : ∀ xs, Ch n xs → okR (fin h.length (.tup (iz xs)) h1) fun v h1 => ∃ xs, v = IV.tup (iz xs) ∧ Ch n xs ∧ Cup k h1 ∧ But k h h1 := by
      intro xs cx
      rw [fin_val c3.flat (below_tup 0 _)]
      refine .here ⟨xs, rfl, cx, c3.at_ (c3.flat.cut _) (by rw [List.getElem?_take_of_lt hlk]), by rw [List.length_take]; omega, fun j hjk => ?_⟩
      by_cases hjl : j < h.length
      · rw [List.getElem?_take_of_lt hjl]; exact hj j hjl hjk
      · rw [List.getElem?_eq_none (by rw [List.length_take]; omega), List.getElem?_eq_none (by omega)]
    refine w_ret ?_
    by_cases hw : way = 1
    · refine okR.of (a := .tup (iz rs)) (h := h1) ?_ (fin_ rs rw_.ch)
      have e1 := tuple_run (qV_ref (f := eVar 5) (e := [some (.ref k), some (.int n), some (.ref (h.length + 1)), a, some (.int way), some (.ref h.length), b]) rfl a1)
      simp only [List.map_cons, List.map_nil, List.cons_append, List.nil_append, List.length_cons, List.length_nil, Nat.zero_add, Nat.sub_self, Nat.reduceAdd, Nat.reduceSub, List.replicate_zero, List.replicate_succ, sRet, sRetN, sSeq, sIf, sExpr, sNil, sAsg, sPar, gNm, eAnd, eOr, eNot, eIf, eC, eCK, eTup, lLst, eNew, aCons, aNil, e1, e2, eVar, eK, eChain, eTuple, eLen, qV, items, toB, tAndM, tOrM, tNotM, bAdd, bSub, uInt, uNeg, cLe, cLt, cGt, cGe, R.bind, RS.of, List.getElem?_cons_zero, List.getElem?_cons_succ, List.set_cons_zero, List.set_cons_succ, gSb, ixN20, ixN21, List.zip_cons_cons, List.zip_nil_left, List.foldl_cons, List.foldl_nil, wpS_nx, wpS_rt, okR_ok, if_true, Bool.not_false, Bool.not_true, and_self, Bool.false_eq_true, if_false, cne_i, decide_eq_true hw]
      exact e1
    · refine okR.of (a := .tup (iz fs)) (h := h1) ?_ (fin_ fs fc)
      have e1 := tuple_run (qV_ref (f := eVar 2) (e := [some (.ref k), some (.int n), some (.ref (h.length + 1)), a, some (.int way), some (.ref h.length), b]) rfl a2)
      simp only [List.map_cons, List.map_nil, List.cons_append, List.nil_append, List.length_cons, List.length_nil, Nat.zero_add, Nat.sub_self, Nat.reduceAdd, Nat.reduceSub, List.replicate_zero, List.replicate_succ, sRet, sRetN, sSeq, sIf, sExpr, sNil, sAsg, sPar, gNm, eAnd, eOr, eNot, eIf, eC, eCK, eTup, lLst, eNew, aCons, aNil, e1, e2, eVar, eK, eChain, eTuple, eLen, qV, items, toB, tAndM, tOrM, tNotM, bAdd, bSub, uInt, uNeg, cLe, cLt, cGt, cGe, R.bind, RS.of, List.getElem?_cons_zero, List.getElem?_cons_succ, List.set_cons_zero, List.set_cons_succ, gSb, ixN20, ixN21, List.zip_cons_cons, List.zip_nil_left, List.foldl_cons, List.foldl_nil, wpS_nx, wpS_rt, okR_ok, if_true, Bool.not_false, Bool.not_true, and_self, Bool.false_eq_true, if_false, cne_i, decide_eq_false hw]
      exact e1
theorem cut_map {α β : Type} (f : α → β) (xs : List α) (lo hi : Option Int) : cut (xs.map f) lo hi = (cut xs lo hi).map f := by
  unfold cut
  rw [List.length_map, List.map_take, List.map_drop]
theorem cut_len {α : Type} (xs : List α) (lo hi : Option Int) : (cut xs lo hi).length ≤ xs.length := by
  unfold cut
  rw [List.length_take, List.length_drop]
  omega
abbrev T0 : IV → IH → Prop := fun u h1 => okR (fin ([] : IH).length u h1) fun v _ => v = .bl true
theorem small_of {n : Int} (hn2 : n ≤ 10) {l : List Int} (h : ∀ x ∈ l, 0 ≤ x ∧ x < n) : ∀ x ∈ l, x.natAbs < 10 ^ 12 := fun x hx => by
  have := h x hx
  have e : (10 : Nat) ^ 12 = 1000000000000 := by decide
  omega
theorem two_ok : ([IV.non, IV.non] : List IV).length ≤ 2 ^ 20 := by decide
/-- a call by position and one by name tell what is due -/
theorem call_chk {F : FM} {ix : List Nat} {f g : IEnv → IH → R (List IV)} {e : IEnv} {h : IH} {us ws : List IV} {n : Int} {due : List Int} {i : Nat} (hf : f e h = .ok us h) (hg : g e h = .ok ws h) (hp : pick ix ws = us) (hF : F us h = .ok (.tup (iz due)) h)
    (hd : e[i]? = some (some (.tup (iz due)))) (hz : due.length ≤ 10) (hs : ∀ x ∈ due, x.natAbs < 10 ^ 12) :
    toB (e2 cNe (gcE (eReprL (lLst (aCons (eC F f) (aCons (eCK F ix aNil g) aNil))))) (gcE (eReprL (lLst (aCons (eVar i) (aCons (eVar i) aNil)))))) e h = .ok false h := by
  have v : ∀ h1 : IH, eVar i e h1 = .ok (.tup (iz due)) h1 := fun h1 => by unfold eVar; rw [hd]
  exact chk_run (vs := [.tup (iz due), .tup (iz due)]) (lst_run (aCons_run (eC_run hf hF) (aCons_run (eCK_run hg hp hF) rfl)) two_ok) (lst_run (aCons_run (v h) (aCons_run (v h) rfl)) two_ok)
    (optD2 (toD_tup h 64 due) (toD_tup h 64 due)) (rp_two hs hs hz hz) (by decide) (by decide)

theorem f_check_number (i : Int) (h : IH) (h0 : 0 ≤ i) : F_check_number [.int i] h = .ok .non h := by
  have q : F_is_from [.int 0, .int i] h = .ok (.bl true) h := by
    refine F_same rfl ?_
    simp only [List.map_cons, List.map_nil, List.cons_append, List.nil_append, List.length_cons, List.length_nil, Nat.zero_add, Nat.sub_self, Nat.reduceAdd, Nat.reduceSub, List.replicate_zero, List.replicate_succ, sRet, sRetN, sSeq, sIf, sExpr, sNil, sAsg, sPar, gNm, eAnd, eOr, eNot, eIf, eC, eCK, eTup, lLst, eNew, aCons, aNil, e1, e2, eVar, eK, eChain, eTuple, eLen, qV, items, toB, tAndM, tOrM, tNotM, bAdd, bSub, uInt, uNeg, cLe, cLt, cGt, cGe, R.bind, RS.of, List.getElem?_cons_zero, List.getElem?_cons_succ, List.set_cons_zero, List.set_cons_succ, gSb, ixN20, ixN21, List.zip_cons_cons, List.zip_nil_left, List.foldl_cons, List.foldl_nil, wpS_nx, wpS_rt, okR_ok, if_true, Bool.not_false, Bool.not_true, and_self, Bool.false_eq_true, if_false, b_is_from, f_is_integer, decide_eq_true h0]
  refine F_same rfl ?_
  simp only [List.map_cons, List.map_nil, List.cons_append, List.nil_append, List.length_cons, List.length_nil, Nat.zero_add, Nat.sub_self, Nat.reduceAdd, Nat.reduceSub, List.replicate_zero, List.replicate_succ, sRet, sRetN, sSeq, sIf, sExpr, sNil, sAsg, sPar, gNm, eAnd, eOr, eNot, eIf, eC, eCK, eTup, lLst, eNew, aCons, aNil, e1, e2, eVar, eK, eChain, eTuple, eLen, qV, items, toB, tAndM, tOrM, tNotM, bAdd, bSub, uInt, uNeg, cLe, cLt, cGt, cGe, R.bind, RS.of, List.getElem?_cons_zero, List.getElem?_cons_succ, List.set_cons_zero, List.set_cons_succ, gSb, ixN20, ixN21, List.zip_cons_cons, List.zip_nil_left, List.foldl_cons, List.foldl_nil, wpS_nx, wpS_rt, okR_ok, if_true, Bool.not_false, Bool.not_true, and_self, Bool.false_eq_true, if_false, b_check_number, q]
theorem f_behind_of {n : Int} {xs ys : List Int} (c : Ch n xs) (d : Ch n ys) (h : IH) : F_behind_of [.tup (iz xs), .tup (iz ys)] h = .ok (.tup (iz (xs.map (geti ys)))) h := by
  have h1 := c.len
  have h2 := d.len
  have h4 := c.hi
  have hc : lLc [2] (iTup (eVar 0)) (gNm 2) tYesM (e2 bIx (eVar 1) (eVar 2)) [some (.tup (iz xs)), some (.tup (iz ys)), none] h = .ok ((xs.map (geti ys)).map .int) h := by
    refine lLc_map (it_tup (xs := iz xs) rfl) rfl (by omega) fun x hx => ⟨_, rfl, ?_⟩
    have hm := c.mem x hx
    exact e2_run' rfl rfl (ix_tup (by omega) (by omega))
  exact F_sameE (F := F_behind_of) rfl rfl (w_ret (okR.of (tuple_run hc) ⟨rfl, rfl⟩))
theorem f_step_of {n : Int} {xs : List Int} (c : Ch n xs) (N : Int) (h : IH) (h0 : 0 ≤ N) (hN : N < 2 ^ 1000) : F_step_of [.tup (iz xs), .int N] h = .ok (.tup (iz (tab xs n N.toNat))) h := by
  have h1 := c.len
  have h2 := c.lo
  have h3 := c.hi
  refine F_sameE (F := F_step_of) rfl rfl ?_
  show wpS (b_step_of [some (.tup (iz xs)), some (.int N), none, none] h) _ _
  unfold b_step_of
  have r0 : lRg1 (eLen (qV (eVar 0))) [some (.tup (iz xs)), some (.int N), none, none] h = .ok (iz (tab xs n 0)) h := by
    have e : eLen (qV (eVar 0)) [some (.tup (iz xs)), some (.int N), none, none] h = .ok (.int n) h := by simp only [List.map_cons, List.map_nil, List.cons_append, List.nil_append, List.length_cons, List.length_nil, Nat.zero_add, Nat.sub_self, Nat.reduceAdd, Nat.reduceSub, List.replicate_zero, List.replicate_succ, sRet, sRetN, sSeq, sIf, sExpr, sNil, sAsg, sPar, gNm, eAnd, eOr, eNot, eIf, eC, eCK, eTup, lLst, eNew, aCons, aNil, e1, e2, eVar, eK, eChain, eTuple, eLen, qV, items, toB, tAndM, tOrM, tNotM, bAdd, bSub, uInt, uNeg, cLe, cLt, cGt, cGe, R.bind, RS.of, List.getElem?_cons_zero, List.getElem?_cons_succ, List.set_cons_zero, List.set_cons_succ, gSb, ixN20, ixN21, List.zip_cons_cons, List.zip_nil_left, List.foldl_cons, List.foldl_nil, wpS_nx, wpS_rt, okR_ok, if_true, Bool.not_false, Bool.not_true, and_self, Bool.false_eq_true, if_false, List.length_map, h1]
    unfold lRg1
    rw [e]
    dsimp only [R.bind]
    rw [if_pos (rgOk_of (by omega) (by omega)), lRange_rng, tab_zero]
  refine w_seq (w_asg (okR.of (tuple_run r0) ⟨_, _, rfl, ?_⟩))
  refine w_seq (w_asg (okR.of (a := .tup (iz xs)) (h := h) rfl ⟨[some (.tup (iz xs)), some (.int N), some (.tup (iz (tab xs n 0))), some (.tup (iz xs))], _, rfl, ?_⟩))
  refine w_seq (w_while (fun m e h1 => h1 = h ∧ ∃ (a p : Nat) (cur : Int), e = [some (.tup (iz xs)), some (.int cur), some (.tup (iz (tab xs n a))), some (.tup (iz (tab xs n p)))] ∧ 0 ≤ cur ∧ cur < 2 ^ m ∧ (a : Int) + p * cur = N)
    1000 (by decide) ⟨rfl, 0, 1, N, by rw [tab_one c], h0, hN, by omega⟩ ?_)
  rintro m e h1 ⟨rfl, a, p, cur, rfl, c0, c1, ec⟩
  refine okR.of (a := decide (0 < cur)) (h := h1) rfl ?_
  by_cases hc : 0 < cur
  · rw [decide_eq_true hc, if_pos rfl]
    have hm : 0 < m := by
      cases m with
      | zero => exfalso; rw [Int.pow_zero] at c1; omega
      | succ m => omega
    refine ⟨hm, ?_⟩
    have md : ∀ h : IH, bMod (.int cur) (.int 2) h = .ok (.int (cur % 2)) h := fun h => mod_ii (by decide)
    have hp : (2 : Int) ^ m = 2 * 2 ^ (m - 1) := by
      rw [show m = (m - 1) + 1 by omega, Int.pow_succ, Nat.add_sub_cancel, Int.mul_comm]
    have half : cur / 2 < 2 ^ (m - 1) := by
      rw [hp] at c1
      generalize (2 : Int) ^ (m - 1) = z at c1
      omega
    have rest : ∀ a' : Nat, (a' : Int) + (p + p : Nat) * (cur / 2) = N → wpS (sSeq (sAsg (eC F_behind_of (aCons (eVar 3) (aCons (eVar 3) (aNil)))) (gNm 3)) (sAug 1 bDiv (eK (.int 2))) [some (.tup (iz xs)), some (.int cur), some (.tup (iz (tab xs n a'))), some (.tup (iz (tab xs n p)))] h1)
        (fun e2 h2 => ∃ m', m' < m ∧ h2 = h1 ∧ ∃ (a p : Nat) (cur : Int), e2 = [some (.tup (iz xs)), some (.int cur), some (.tup (iz (tab xs n a))), some (.tup (iz (tab xs n p)))] ∧ 0 ≤ cur ∧ cur < 2 ^ m' ∧ (a : Int) + p * cur = N) (fun u h2 => u = .tup (iz (tab xs n N.toNat)) ∧ h2 = h1) := by
      intro a' ea
      have bh := f_behind_of (tab_ch c p) (tab_ch c p) h1
      rw [tab_behind c] at bh
      refine w_seq (w_asg (okR.of (eC_run (vs := [.tup (iz (tab xs n p)), .tup (iz (tab xs n p))]) rfl bh) ⟨[some (.tup (iz xs)), some (.int cur), some (.tup (iz (tab xs n a'))), some (.tup (iz (tab xs n (p + p))))], _, rfl, ?_⟩))
      exact w_aug (x := .int cur) (y := .int 2) rfl rfl (div_ii (h := h1) (by decide) (by decide)) ⟨m - 1, by omega, rfl, a', p + p, cur / 2, rfl, by omega, half, ea⟩
    have key : ∀ q : Int, ((p + p : Nat) : Int) * q = 2 * ((p : Int) * q) := fun q => by
      rw [Int.natCast_add, Int.add_mul]
      omega
    have key2 : ∀ q r : Int, (p : Int) * (2 * q + r) = 2 * ((p : Int) * q) + (p : Int) * r := fun q r => by
      rw [Int.mul_add, Int.mul_left_comm]
    have hcur : cur = 2 * (cur / 2) + cur % 2 := by omega
    refine w_seq (w_if (okR.of (a := decide (cur % 2 = 1)) (h := h1) (toB_run' (e2_run' (e2_run' rfl rfl (md h1)) rfl rfl)) ?_))
    by_cases ho : cur % 2 = 1
    · rw [decide_eq_true ho, if_pos rfl]
      have bh := f_behind_of (tab_ch c a) (tab_ch c p) h1
      rw [tab_behind c] at bh
      refine w_asg (okR.of (eC_run (vs := [.tup (iz (tab xs n a)), .tup (iz (tab xs n p))]) rfl bh) ⟨_, _, rfl, ?_⟩)
      refine rest (a + p) ?_
      rw [key, ← ec, Int.natCast_add]
      conv => rhs; rw [hcur, key2, ho, Int.mul_one]
      omega
    · rw [decide_eq_false ho, if_neg (by decide)]
      refine w_nil (rest a ?_)
      have h0' : cur % 2 = 0 := by omega
      rw [key, ← ec]
      conv => rhs; rw [hcur, key2, h0', Int.mul_zero]
      omega
  · rw [decide_eq_false hc, if_neg (by decide)]
    have hz : cur = 0 := by omega
    refine w_ret (okR.of (a := .tup (iz (tab xs n a))) (h := h1) rfl ⟨?_, rfl⟩)
    rw [hz, Int.mul_zero] at ec
    rw [show N.toNat = a by omega]
abbrev nextV : EM := e2 bIx (eVar 0) (e2 bIx (eVar 2) (e1 uNeg (eK (.int 1))))
theorem next_run {n p : Int} {xs L : List Int} {a b : Option IV} {k : Nat} {h : IH} (c : Ch n xs) (p0 : 0 ≤ p) (p1 : p < n) (hk : h[k]? = some (.lst (iz L))) (hn : 0 < L.length) (hg : ∀ j (hj : j < L.length), L[j] = itn xs j p) :
    nextV [some (.tup (iz xs)), a, some (.ref k)] h = .ok (.int (itn xs L.length p)) h := by
  have hl := c.len
  have q1 := ix_last hk hn
  rw [hg _ (by omega)] at q1
  have hm := c.itn (L.length - 1) p0 p1
  have q2 := ix_tup (xs := xs) (i := itn xs (L.length - 1) p) (h := h) hm.1 (by omega)
  rw [← itn_succ, show L.length - 1 + 1 = L.length by omega] at q2
  exact e2_run' rfl (e2_run' rfl rfl q1) q2
theorem way_loop {n p : Int} {xs : List Int} (c : Ch n xs) (p0 : 0 ≤ p) (p1 : p < n) (h : IH) {N : IEnv → IH → Prop} {T : IV → IH → Prop}
    (hN : ∀ L, IsPath xs p L → (∀ x ∈ L, 0 ≤ x ∧ x < n) → N [some (.tup (iz xs)), some (.int p), some (.ref h.length)] (h ++ [.lst (iz L)])) :
    wpS (sWhile (fun _ _ => 100000) (toB (e2 cNin nextV (eVar 2))) (sExpr (eMth mAppend (eVar 2) (aCons nextV (aNil)))) [some (.tup (iz xs)), some (.int p), some (.ref h.length)] (h ++ [.lst [.int p]])) N T := by
  have h3 := c.hi
  have h2 := c.lo
  refine w_while (fun m e h1 => e = [some (.tup (iz xs)), some (.int p), some (.ref h.length)] ∧ ∃ L, h1 = h ++ [.lst (iz L)] ∧ 0 < L.length ∧ (∀ j (hj : j < L.length), L[j] = itn xs j p) ∧ L.Nodup ∧ (∀ x ∈ L, 0 ≤ x ∧ x < n) ∧ m + L.length = n.toNat + 1)
    n.toNat (by omega) ⟨rfl, [p], rfl, by simp, ?_, by simp, ?_, rfl⟩ ?_
  · intro j hj
    have : j = 0 := by simpa using hj
    subst this
    rfl
  · intro x hx
    rw [List.mem_singleton] at hx
    omega
  rintro m e h1 ⟨rfl, L, rfl, hn, hg, nd, hm, em⟩
  have hk : (h ++ [IO.lst (iz L)])[h.length]? = some (.lst (iz L)) := by
    rw [List.getElem?_append_right (Nat.le_refl _), Nat.sub_self]; rfl
  have nx := next_run (a := some (.int p)) (b := none) c p0 p1 hk hn hg
  have nin := cnin_ref (v := itn xs L.length p) hk
  have vm := c.itn L.length p0 p1
  refine okR.of (toB_run' (e2_run' nx rfl nin)) ?_
  by_cases hc : itn xs L.length p ∈ L
  · rw [show L.contains (itn xs L.length p) = true from List.contains_iff_mem.mpr hc, Bool.not_true, if_neg (by decide)]
    exact hN L ⟨hn, hg, nd, hc⟩ hm
  · rw [show L.contains (itn xs L.length p) = false from by
      cases q : L.contains (itn xs L.length p) with
      | false => rfl
      | true => exact absurd (List.contains_iff_mem.mp q) hc, Bool.not_false, if_pos rfl]
    have ll := nodup_len nd hm
    refine ⟨by omega, ?_⟩
    have ap : mAppend (.ref h.length) [.int (itn xs L.length p)] (h ++ [.lst (iz L)]) = .ok .non (h ++ [.lst (iz (L ++ [itn xs L.length p]))]) := by
      have s2 : (iz L).length < sizeLine := by
        rw [List.length_map]
        exact Nat.lt_of_lt_of_le (by omega : L.length < 2 ^ 20) (by decide)
      have s3 : (h ++ [IO.lst (iz L)]).set h.length (.lst (iz L ++ [.int (itn xs L.length p)])) = h ++ [.lst (iz (L ++ [itn xs L.length p]))] := by
        rw [List.set_append_right _ _ (Nat.le_refl _), Nat.sub_self, iz, iz, List.map_append]
        rfl
      simp only [mAppend, hk, if_pos s2, s3]
    refine w_expr (okR.of (eMth_run (k := h.length) rfl hk (aCons_run nx rfl) ap) ⟨m - 1, by omega, rfl, L ++ [itn xs L.length p], rfl, ?_, ?_, ?_, ?_, ?_⟩)
    · rw [List.length_append]; omega
    · intro j hj
      by_cases hjl : j < L.length
      · rw [List.getElem_append_left hjl]; exact hg j hjl
      · have : j = L.length := by rw [List.length_append, List.length_singleton] at hj; omega
        subst this
        rw [List.getElem_append_right (Nat.le_refl _)]
        simp
    · rw [List.nodup_append]
      refine ⟨nd, by simp, fun x hx y hy => ?_⟩
      rw [List.mem_singleton] at hy
      rw [hy]
      intro z
      exact hc (z ▸ hx)
    · intro x hx
      rcases List.mem_append.mp hx with q | q
      · exact hm x q
      · rw [List.mem_singleton] at q; rw [q]; exact vm
    · rw [List.length_append, List.length_singleton]; omega
theorem f_way_of {n p : Int} {xs : List Int} (c : Ch n xs) (p0 : 0 ≤ p) (p1 : p < n) (h : IH) (f : FlatH h) : okR (F_way_of [.tup (iz xs), .int p] h) fun v h1 => ∃ L, v = .tup (iz L) ∧ h1 = h ∧ IsPath xs p L ∧ (∀ x ∈ L, 0 ≤ x ∧ x < n) := by
  refine F_retE (F := F_way_of) rfl rfl ?_
  show wpS (b_way_of [some (.tup (iz xs)), some (.int p), none] h) _ _
  unfold b_way_of
  refine w_seq (w_asg (okR.of (eNew_run (lst_run (h1 := h) (xs := [.int p]) rfl (by show 1 ≤ 2 ^ 20; decide))) ⟨[some (.tup (iz xs)), some (.int p), some (.ref h.length)], _, rfl, ?_⟩))
  refine w_seq (way_loop c p0 p1 h fun L hp hm => ?_)
  have hk : (h ++ [IO.lst (iz L)])[h.length]? = some (.lst (iz L)) := by
    rw [List.getElem?_append_right (Nat.le_refl _), Nat.sub_self]; rfl
  refine w_ret (okR.of (tuple_run (qV_ref rfl hk)) ?_)
  rw [fin_val (f.app (ints_below 0 _)) (below_tup 0 _), List.take_left]
  exact .here ⟨L, rfl, rfl, hp, hm⟩
theorem f_lway {n p : Int} {xs : List Int} (c : Ch n xs) (p0 : 0 ≤ p) (p1 : p < n) (h : IH) : okR (F__law_way [.tup (iz xs), .int p] h) fun v h1 => ∃ L, ∃ (at_ : Nat) (ha : at_ < L.length), v = .tup [.ref h.length, .int at_] ∧ h1 = h ++ [.lst (iz L)] ∧ IsPath xs p L ∧ (∀ x ∈ L, 0 ≤ x ∧ x < n) ∧ L[at_] = itn xs L.length p := by
  refine F_retE (F := F__law_way) rfl rfl ?_
  show wpS (b__law_way [some (.tup (iz xs)), some (.int p), none] h) _ _
  unfold b__law_way
  refine w_seq (w_asg (okR.of (eNew_run (lst_run (h1 := h) (xs := [.int p]) rfl (by show 1 ≤ 2 ^ 20; decide))) ⟨[some (.tup (iz xs)), some (.int p), some (.ref h.length)], _, rfl, ?_⟩))
  refine w_seq (way_loop c p0 p1 h fun L hp hm => ?_)
  have hk : (h ++ [IO.lst (iz L)])[h.length]? = some (.lst (iz L)) := by
    rw [List.getElem?_append_right (Nat.le_refl _), Nat.sub_self]; rfl
  have nx := next_run (a := some (.int p)) (b := none) c p0 p1 hk hp.ne hp.get
  obtain ⟨j, hj, q1, q2⟩ := idx_iz hp.cl
  have ix : mIndex (.ref h.length) [.int (itn xs L.length p)] (h ++ [.lst (iz L)]) = .ok (.int j) (h ++ [.lst (iz L)]) := by
    have s1 : flat (.int (itn xs L.length p)) = true ∧ (iz L).all flat = true := ⟨rfl, iz_flat L⟩
    simp only [mIndex, hk, if_pos s1, q1]
  refine w_ret (okR.of (tup_run (aCons_run rfl (aCons_run (eMth_run (k := h.length) rfl hk (aCons_run nx rfl) ix) rfl)) (by show 2 ≤ 2 ^ 20; decide)) ?_)
  rw [fin_pair (Nat.le_refl _)]
  exact .here ⟨L, j, hj, rfl, rfl, hp, hm, q2⟩
theorem e1_run {o : IV → IH → R IV} {f : EM} {e : IEnv} {h h1 : IH} {x : IV} {r : R IV} (q1 : f e h = .ok x h1) (q2 : o x h1 = r) : MM.e1 o f e h = r := by
  unfold MM.e1
  rw [q1]
  exact q2
theorem pow_ii {i j : Int} {h : IH} (h1 : 0 ≤ j) (h2 : j ≤ 1000000) (h3 : i.natAbs < 2 ^ 64) : bPow (.int i) (.int j) h = .ok (.int (i ^ j.toNat)) h := if_pos ⟨h1, h2, h3⟩
theorem mul_big {i j : Int} {h : IH} (hz : i.natAbs.log2 + j.natAbs.log2 < 1000000) : bMul (.int i) (.int j) h = .ok (.int (i * j)) h := if_pos (.inr hz)
theorem p10 (j : Nat) (hj : j ≤ 100) (h : IH) : bPow (.int 10) (.int j) h = .ok (.int (10 ^ j)) h := pow_ii (by omega) (by omega) (by decide)
def figs : List Int := [10 ^ 4, 10 ^ 12, 10 ^ 20, 10 ^ 33, 10 ^ 50, 10 ^ 55 * 10 ^ 9, 10 ^ 40 * 10 ^ 40]
theorem figs_le : ∀ x ∈ figs, 0 ≤ x ∧ x ≤ 10 ^ 80 := by decide +kernel
theorem f_number (k : Nat) (h : IH) (c : Cup k h) : okR (F__law_number [.ref k] h) fun v h1 => ∃ N : Int, v = .int N ∧ 0 ≤ N ∧ N < 2 ^ 1000 ∧ Cup k h1 ∧ h1.length = h.length := by
  have hlk := c.lt
  have big : (10 : Int) ^ 80 * 2520 + 5040 < 2 ^ 1000 := by decide +kernel
  have big1 : (10 : Int) ^ 45 * 10 ^ 44 + 5040 < 2 ^ 1000 := by decide +kernel
  have big2 : (3000 : Int) < 2 ^ 1000 := by decide +kernel
  have fin_ : ∀ (N : Int) (h1 : IH), 0 ≤ N → N < 2 ^ 1000 → Cup k h1 → h.length ≤ h1.length → okR (fin h.length (.int N) h1) fun v h1 => ∃ N : Int, v = .int N ∧ 0 ≤ N ∧ N < 2 ^ 1000 ∧ Cup k h1 ∧ h1.length = h.length := by
    intro N h1 a b c1 hl
    rw [fin_val c1.flat rfl]
    exact .here ⟨N, rfl, a, b, c1.at_ (c1.flat.cut _) (by rw [List.getElem?_take_of_lt hlk]), by rw [List.length_take]; omega⟩
  obtain ⟨v, h1, q1, went, rfl, w0, w1, c1, b1⟩ := (f_sip k 5 h c (by decide) (by decide)).get
  refine F_retE (F := F__law_number) rfl rfl ?_
  show wpS (b__law_number [some (.ref k), none, none, none] h) _ _
  unfold b__law_number
  refine w_seq (w_asg (okR.of (eC_run (vs := [.ref k, .int 5]) rfl q1) ⟨[some (.ref k), some (.int went), none, none], _, rfl, ?_⟩))
  refine w_seq (w_if (okR.of (a := decide (went = 0)) (h := h1) rfl ?_))
  by_cases e0 : went = 0
  · rw [decide_eq_true e0, if_pos rfl]
    obtain ⟨v, h2, q2, d, rfl, d0, d1, c2, b2⟩ := (f_sip k 3000 h1 c1 (by decide) (by decide)).get
    exact w_ret (okR.of (eC_run (vs := [.ref k, .int 3000]) rfl q2) (fin_ d h2 d0 (by omega) c2 (by rw [b2.1, b1.1]; exact Nat.le_refl _)))
  rw [decide_eq_false e0, if_neg (by decide)]
  refine w_nil (w_seq (w_if (okR.of (a := decide (went = 1)) (h := h1) rfl ?_)))
  by_cases e1 : went = 1
  · rw [decide_eq_true e1, if_pos rfl]
    obtain ⟨v, h2, q2, d, rfl, d0, d1, c2, b2⟩ := (f_sip k 5040 h1 c1 (by decide) (by decide)).get
    have m1 : MM.e2 bMul (MM.e2 bPow (eK (.int 10)) (eK (.int 45))) (MM.e2 bPow (eK (.int 10)) (eK (.int 44))) [some (.ref k), some (.int went), none, none] h1 = .ok (.int (10 ^ 45 * 10 ^ 44)) h1 :=
      e2_run' (e2_run' rfl rfl (p10 45 (by decide) h1)) (e2_run' rfl rfl (p10 44 (by decide) h1)) (mul_big (by decide +kernel))
    have pos : (0 : Int) ≤ 10 ^ 45 * 10 ^ 44 := by decide +kernel
    generalize (10 : Int) ^ 45 * 10 ^ 44 = z at m1 pos big1
    exact w_ret (okR.of (e2_run' m1 (eC_run (vs := [.ref k, .int 5040]) rfl q2) rfl) (fin_ (z + d) h2 (by omega) (by omega) c2 (by rw [b2.1, b1.1]; exact Nat.le_refl _)))
  rw [decide_eq_false e1, if_neg (by decide)]
  refine w_nil (w_seq (w_if (okR.of (a := decide (went = 2)) (h := h1) rfl ?_)))
  by_cases e2 : went = 2
  · rw [decide_eq_true e2, if_pos rfl]
    have p : ∀ j : Nat, j ≤ 100 → MM.e2 bPow (eK (.int 10)) (eK (.int j)) [some (.ref k), some (.int went), none, none] h1 = .ok (.int (10 ^ j)) h1 := fun j hj => e2_run' rfl rfl (p10 j hj h1)
    have fg : lLst (aCons (MM.e2 bPow (eK (.int 10)) (eK (.int 4))) (aCons (MM.e2 bPow (eK (.int 10)) (eK (.int 12))) (aCons (MM.e2 bPow (eK (.int 10)) (eK (.int 20))) (aCons (MM.e2 bPow (eK (.int 10)) (eK (.int 33))) (aCons (MM.e2 bPow (eK (.int 10)) (eK (.int 50))) (aCons (MM.e2 bMul (MM.e2 bPow (eK (.int 10)) (eK (.int 55))) (MM.e2 bPow (eK (.int 10)) (eK (.int 9)))) (aCons (MM.e2 bMul (MM.e2 bPow (eK (.int 10)) (eK (.int 40))) (MM.e2 bPow (eK (.int 10)) (eK (.int 40)))) (aNil)))))))) [some (.ref k), some (.int went), none, none] h1 = .ok (iz figs) h1 :=
      lst_run (aCons_run (p 4 (by decide)) (aCons_run (p 12 (by decide)) (aCons_run (p 20 (by decide)) (aCons_run (p 33 (by decide)) (aCons_run (p 50 (by decide)) (aCons_run (e2_run' (p 55 (by decide)) (p 9 (by decide)) (mul_big (by decide +kernel))) (aCons_run (e2_run' (p 40 (by decide)) (p 40 (by decide)) (mul_big (by decide +kernel))) rfl))))))) (by show 7 ≤ 2 ^ 20; decide)
    have hfl : figs.length = 7 := rfl
    have hfm := figs_le
    generalize figs = fs at fg hfl hfm
    have lh1 : h1.length = h.length := b1.1
    refine w_seq (w_asg (okR.of (eNew_run fg) ⟨[some (.ref k), some (.int went), some (.ref h1.length), none], _, rfl, ?_⟩))
    have c1' : Cup k (h1 ++ [.lst (iz fs)]) := c1.at_ (c1.flat.app (ints_below 0 _)) (by rw [List.getElem?_append_left c1.lt])
    have at1 : (h1 ++ [IO.lst (iz fs)])[h1.length]? = some (.lst (iz fs)) := by
      rw [List.getElem?_append_right (Nat.le_refl _), Nat.sub_self]; rfl
    have l1 : (h1 ++ [IO.lst (iz fs)]).length = h.length + 1 := by rw [List.length_append, List.length_singleton, lh1]
    generalize h1 ++ [IO.lst (iz fs)] = g1 at c1' at1 l1
    -- figures[sip]
    obtain ⟨v, g2, q2, d, rfl, d0, d1, c2, b2⟩ := (f_sip k 7 g1 c1' (by decide) (by decide)).get
    have at2 : g2[h1.length]? = some (.lst (iz fs)) := (b2.2 _ (by omega)).trans at1
    have x1 := ix_ref at2 d0 (by rw [hfl]; exact d1)
    have m1 := hfm _ (geti_mem d0 (by rw [hfl]; exact d1))
    generalize geti fs d = z at x1 m1
    -- [1, 2520][sip]
    have two : ∀ (a b : Int) (e : IEnv) (g : IH), eNew (lLst (aCons (eK (.int a)) (aCons (eK (.int b)) aNil))) e g = .ok (.ref g.length) (g ++ [.lst (iz [a, b])]) := fun a b e g => eNew_run (lst_run rfl (by show 2 ≤ 2 ^ 20; decide))
    have pick2 : ∀ (a b : Int) (e : IEnv) (g : IH), e[0]? = some (some (.ref k)) → Cup k g → okR (MM.e2 bIx (eNew (lLst (aCons (eK (.int a)) (aCons (eK (.int b)) aNil)))) (eC F__law_sip (aCons (eVar 0) (aCons (eK (.int 2)) aNil))) e g) fun v g' => (v = .int a ∨ v = .int b) ∧ Cup k g' ∧ g'.length = g.length + 1 := by
      intro a b e g he cg
      have cg' : Cup k (g ++ [.lst (iz [a, b])]) := cg.at_ (cg.flat.app (ints_below 0 _)) (by rw [List.getElem?_append_left cg.lt])
      have at3 : (g ++ [IO.lst (iz [a, b])])[g.length]? = some (.lst (iz [a, b])) := by
        rw [List.getElem?_append_right (Nat.le_refl _), Nat.sub_self]; rfl
      obtain ⟨v, g2, q, d, rfl, d0, d1, c, b'⟩ := (f_sip k 2 _ cg' (by decide) (by decide)).get
      have hne : g.length ≠ k := by have := cg.lt; omega
      have at4 := (b'.2 _ hne).trans at3
      have x := ix_ref at4 d0 d1
      refine okR.of (e2_run' (two a b e g) (eC_run (vs := [.ref k, .int 2]) (aCons_run (by unfold eVar; rw [he]) rfl) q) x) ⟨?_, c, by rw [b'.1, List.length_append, List.length_singleton]⟩
      have hd : d = 0 ∨ d = 1 := by omega
      rcases hd with rfl | rfl
      · exact .inl rfl
      · exact .inr rfl
    obtain ⟨v, g3, q3, hv, c3, l3⟩ := (pick2 1 2520 [some (.ref k), some (.int went), some (.ref h1.length), none] g2 rfl c2).get
    obtain ⟨y, rfl, y0, y1⟩ : ∃ y : Int, v = .int y ∧ 0 ≤ y ∧ y ≤ 2520 := by
      rcases hv with rfl | rfl
      · exact ⟨1, rfl, by decide, by decide⟩
      · exact ⟨2520, rfl, by decide, by decide⟩
    have ml : bMul (.int z) (.int y) g3 = .ok (.int (z * y)) g3 := if_pos (.inl (.inr ⟨by omega, by omega⟩))
    have zy0 : 0 ≤ z * y := Int.mul_nonneg m1.1 y0
    have zy1 : z * y ≤ 10 ^ 80 * 2520 := Int.mul_le_mul m1.2 y1 y0 (by decide +kernel)
    generalize z * y = m at ml zy0 zy1
    refine w_seq (w_asg (okR.of (e2_run' (e2_run' rfl (eC_run (vs := [.ref k, .int 7]) rfl q2) x1) q3 ml) ⟨[some (.ref k), some (.int went), some (.ref h1.length), some (.int m)], _, rfl, ?_⟩))
    obtain ⟨v, g4, q4, hv, c4, l4⟩ := (pick2 5040 11 [some (.ref k), some (.int went), some (.ref h1.length), some (.int m)] g3 rfl c3).get
    obtain ⟨y, rfl, y0, y1⟩ : ∃ y : Int, v = .int y ∧ 1 ≤ y ∧ y ≤ 5040 := by
      rcases hv with rfl | rfl
      · exact ⟨5040, rfl, by decide, by decide⟩
      · exact ⟨11, rfl, by decide, by decide⟩
    obtain ⟨v, g5, q5, d', rfl, d0', d1', c5, b5⟩ := (f_sip k y g4 c4 y0 (by omega)).get
    refine w_ret (okR.of (e2_run' rfl (eC_run (vs := [.ref k, .int y]) (aCons_run rfl (aCons_run q4 rfl)) q5) rfl) (fin_ (m + d') g5 (by omega) (by omega) c5 ?_))
    have := b5.1
    have := b2.1
    omega
  rw [decide_eq_false e2, if_neg (by decide)]
  obtain ⟨v, h2, q2, d, rfl, d0, d1, c2, b2⟩ := (f_sip k 13 h1 c1 (by decide) (by decide)).get
  exact w_nil (w_ret (okR.of (eC_run (vs := [.ref k, .int 13]) rfl q2) (fin_ d h2 d0 (by omega) c2 (by rw [b2.1, b1.1]; exact Nat.le_refl _))))

mutual
theorem eqIV_refl : ∀ x : IV, eqIV x x = true
  | .non => rfl
  | .bl b => by simp [eqIV]
  | .int i => by simp [eqIV]
  | .str s => by simp [eqIV]
  | .scr ns => by simp [eqIV]
  | .ref k => by simp [eqIV]
  | .tup xs => by simp only [eqIV]; exact eqIVs_refl xs
theorem eqIVs_refl : ∀ xs : List IV, eqIVs xs xs = true
  | [] => rfl
  | x :: xs => by simp only [eqIVs, eqIV_refl x, eqIVs_refl xs, Bool.and_self]
end
theorem stands_of {k : Nat} {xs : List IV} {h : IH} (e : h[k]? = some (.lst xs)) : stands k xs h = true := by
  unfold stands
  rw [e]
  exact eqIVs_refl xs
abbrev itz (Ls : List (List Int)) : List IV := Ls.map fun L => IV.tup (iz L)
theorem itz_below : ∀ (n : Nat) (Ls : List (List Int)), belows n (itz Ls) = true
  | _, [] => rfl
  | n, L :: Ls => by simp only [itz, List.map_cons, belows, below, ints_below, Bool.true_and]; exact itz_below n Ls
theorem pths {n : Int} {xs : List Int} (c : Ch n xs) : Pths n xs := by
  have ex : ∀ p, 0 ≤ p → p < n → ∃ L, IsPath xs p L ∧ ∀ x ∈ L, 0 ≤ x ∧ x < n := fun p h0 h1 => by
    obtain ⟨v, h, e, L, _, _, hp, hm⟩ := (f_way_of c h0 h1 [] FlatH.nil).get
    exact ⟨L, hp, hm⟩
  refine ⟨c, fun p h0 h1 => ?_, fun p h0 h1 => ?_⟩
  · obtain ⟨L, hp, hm⟩ := ex p h0 h1
    rw [pth_is hp]; exact hp
  · obtain ⟨L, hp, hm⟩ := ex p h0 h1
    rw [pth_is hp]; exact hm
theorem f_way {n x : Int} {xs : List Int} (P : Pths n xs) (x0 : 0 ≤ x) (x1 : x < n) (h : IH) (f : FlatH h) : F_way_of [.tup (iz xs), .int x] h = .ok (.tup (iz (pth xs x))) h := by
  obtain ⟨v, h1, e, L, rfl, rfl, hp, hm⟩ := (f_way_of P.ch x0 x1 h f).get
  rw [pth_is hp]
  exact e
theorem rng_filter_len0 (n : Int) (p : Int → Bool) : ((rng n).filter p).length ≤ n.toNat := Nat.le_trans (List.length_filter_le ..) (by rw [rng_len]; exact Nat.le_refl _)
theorem onr_len {xs : List Int} {n : Int} : (onr xs n).length ≤ n.toNat := rng_filter_len0 n _
theorem f_on {n : Int} {xs : List Int} (P : Pths n xs) (h : IH) : F_on_rings_of [.tup (iz xs)] h = .ok (.tup (iz (onr xs n))) h := by
  have c := P.ch
  have h1 := c.len
  have h2 := c.lo
  have h3 := c.hi
  have im : F_image_of [.tup (iz (tab xs n n.toNat))] h = .ok (.tup (iz (onr xs n))) h := by
    have hs : lSortSet (iTupV (eVar 0)) [some (.tup (iz (tab xs n n.toNat)))] h = .ok (iz (onr xs n)) h := by
      rw [← P.sortU]
      exact sset_run rfl (by have := (tab_ch c n.toNat).len; omega)
    exact F_sameE (F := F_image_of) rfl rfl (w_ret (okR.of (tuple_run hs) ⟨rfl, rfl⟩))
  have z : (2 : Int) ^ 1000 > 10 := by decide +kernel
  have st := f_step_of c n h (by omega) (by omega)
  refine F_sameE (F := F_on_rings_of) rfl rfl ?_
  show wpS (b_on_rings_of [some (.tup (iz xs))] h) _ _
  unfold b_on_rings_of
  refine w_ret (okR.of (eC_run (vs := [.tup (iz (tab xs n n.toNat))]) (aCons_run (eC_run (vs := [.tup (iz xs), .int n]) ?_ st) rfl) im) ⟨rfl, rfl⟩)
  simp only [List.map_cons, List.map_nil, List.cons_append, List.nil_append, List.length_cons, List.length_nil, Nat.zero_add, Nat.sub_self, Nat.reduceAdd, Nat.reduceSub, List.replicate_zero, List.replicate_succ, sRet, sRetN, sSeq, sIf, sExpr, sNil, sAsg, sPar, gNm, eAnd, eOr, eNot, eIf, eC, eCK, eTup, lLst, eNew, aCons, aNil, e1, e2, eVar, eK, eChain, eTuple, eLen, qV, items, toB, tAndM, tOrM, tNotM, bAdd, bSub, uInt, uNeg, cLe, cLt, cGt, cGe, R.bind, RS.of, List.getElem?_cons_zero, List.getElem?_cons_succ, List.set_cons_zero, List.set_cons_succ, gSb, ixN20, ixN21, List.zip_cons_cons, List.zip_nil_left, List.foldl_cons, List.foldl_nil, wpS_nx, wpS_rt, okR_ok, if_true, Bool.not_false, Bool.not_true, and_self, Bool.false_eq_true, if_false, List.length_map, h1]
/-- a ring from its least place -/
theorem f_ring_at {n x : Int} {xs : List Int} (P : Pths n xs) (x0 : 0 ≤ x) (x1 : x < n) (h : IH) (f : FlatH h) {m : Int} {t : Nat} (ht : t < (pth xs x).length) (e1 : minL (pth xs x) = some m) (et : (pth xs x)[t] = m) (er : pth xs m = (pth xs x).drop t ++ (pth xs x).take t) :
    F_ring_at [.tup (iz xs), .int x] h = .ok (.tup (iz (pth xs m))) h := by
  have a := P.is x x0 x1
  have ll := P.len x0 x1
  have hi := P.ch.hi
  rw [er]
  generalize hL : pth xs x = L at *
  have wy := f_way P x0 x1 h f
  rw [hL] at wy
  have hm : m ∈ L := by rw [← et]; exact List.getElem_mem ht
  obtain ⟨j, hj, q1, q2⟩ := idx_iz hm
  have jt : j = t := (List.getElem_inj a.nd).mp (q2.trans et.symm)
  subst jt
  refine F_sameE (F := F_ring_at) rfl rfl ?_
  show wpS (b_ring_at [some (.tup (iz xs)), some (.int x), none, none] h) _ _
  unfold b_ring_at
  refine w_seq (w_asg (okR.of (eC_run (vs := [.tup (iz xs), .int x]) rfl wy) ⟨[some (.tup (iz xs)), some (.int x), some (.tup (iz L)), none], _, rfl, ?_⟩))
  have mn : eInts minL (qTV (eVar 2)) [some (.tup (iz xs)), some (.int x), some (.tup (iz L)), none] h = .ok (.int m) h := by
    show (match intsOf (iz L) with
      | some ns => match minL ns with
        | some M => R.ok (IV.int M) h
        | none => .bad
      | none => .bad) = _
    rw [intsOf_ints]
    dsimp only
    rw [e1]
  have tx : eTIx (eVar 2) (aCons (eInts minL (qTV (eVar 2))) aNil) [some (.tup (iz xs)), some (.int x), some (.tup (iz L)), none] h = .ok (.int j) h := by
    have s1 : flat (.int m) = true ∧ (iz L).all flat = true := ⟨rfl, iz_flat L⟩
    have ac := aCons_run (g := aNil) mn rfl
    unfold eTIx
    rw [show eVar 2 [some (.tup (iz xs)), some (.int x), some (.tup (iz L)), none] h = .ok (.tup (iz L)) h from rfl]
    dsimp only [R.bind]
    rw [ac]
    dsimp only
    rw [if_pos s1, q1]
  refine w_seq (w_asg (okR.of tx ⟨[some (.tup (iz xs)), some (.int x), some (.tup (iz L)), some (.int j)], _, rfl, ?_⟩))
  have c1 : cut (iz L) (some (j : Int)) none = iz (L.drop j) := by rw [cut_hi (by omega) (by rw [List.length_map]; omega), Int.toNat_natCast]; exact List.map_drop.symm
  have c2 : cut (iz L) none (some (j : Int)) = iz (L.take j) := by rw [cut_lo (by omega) (by rw [List.length_map]; omega), Int.toNat_natCast]; exact List.map_take.symm
  have k1 : eCutT (eVar 2) (oS (eVar 3)) oN [some (.tup (iz xs)), some (.int x), some (.tup (iz L)), some (.int j)] h = .ok (.tup (iz (L.drop j))) h := by rw [← c1]; rfl
  have k2 : eCutT (eVar 2) oN (oS (eVar 3)) [some (.tup (iz xs)), some (.int x), some (.tup (iz L)), some (.int j)] h = .ok (.tup (iz (L.take j))) h := by rw [← c2]; rfl
  have ad := add_tt (xs := iz (L.drop j)) (ys := iz (L.take j)) (h := h) (by rw [List.length_map, List.length_map, List.length_drop, List.length_take]; omega)
  rw [← List.map_append] at ad
  exact w_ret (okR.of (e2_run' k1 k2 ad) ⟨rfl, rfl⟩)
theorem take_s {l : List Int} {i : Nat} (h : i < l.length) : l.take (i + 1) = l.take i ++ [l[i]] := by
  rw [List.take_succ, List.getElem?_eq_getElem h]
  rfl
theorem fsts_app (xs l l' : List Int) : fsts xs (l ++ l') = fsts xs l ++ fsts xs l' := by
  unfold fsts
  exact List.filter_append ..
open Classical in
theorem fsts_yes {xs : List Int} {x : Int} (h : Fst xs x) : fsts xs [x] = [x] := by
  unfold fsts
  rw [List.filter_cons_of_pos (by rw [decide_eq_true_eq]; exact h)]
  rfl
open Classical in
theorem fsts_no {xs : List Int} {x : Int} (h : ¬ Fst xs x) : fsts xs [x] = [] := by
  unfold fsts
  rw [List.filter_cons_of_neg (by rw [decide_eq_true_eq]; exact h)]
  rfl
theorem take_mem {l : List Int} (hs : l.Pairwise (· < ·)) {i : Nat} (h : i < l.length) {z : Int} : z ∈ l.take i ↔ z ∈ l ∧ z < l[i] := by
  constructor
  · intro hz
    obtain ⟨j, hj, e⟩ := List.getElem_of_mem hz
    rw [List.length_take] at hj
    rw [List.getElem_take] at e
    refine ⟨List.mem_of_mem_take hz, ?_⟩
    rw [← e]
    exact List.pairwise_iff_getElem.mp hs j i (by omega) h (by omega)
  · rintro ⟨hz, hl⟩
    obtain ⟨j, hj, e⟩ := List.getElem_of_mem hz
    have : j < i := by
      rcases Nat.lt_trichotomy j i with q | q | q
      · exact q
      · subst q; omega
      · have := List.pairwise_iff_getElem.mp hs i j h hj q; omega
    rw [← e, List.mem_iff_getElem]
    exact ⟨j, by rw [List.length_take]; omega, by rw [List.getElem_take]⟩
theorem fst_self {n x : Int} {xs : List Int} (P : Pths n xs) (x0 : 0 ≤ x) (x1 : x < n) (fx : Fst xs x) : ∃ (t : Nat) (ht : t < (pth xs x).length), minL (pth xs x) = some x ∧ (pth xs x)[t] = x ∧ pth xs x = (pth xs x).drop t ++ (pth xs x).take t := by
  obtain ⟨m, t, ht, e1, et, m0, m1, mx, fm, xm, er⟩ := P.fst x0 x1 fx.1
  have hm : m ∈ pth xs x := by rw [← et]; exact List.getElem_mem ht
  have := fx.2 m hm
  have e : m = x := by omega
  subst e
  exact ⟨t, ht, e1, et, er⟩
theorem lcut_run {f : EM} {lo hi : IEnv → IH → R (Option Int)} {e : IEnv} {h : IH} {k : Nat} {L : List Int} {l u : Option Int} (hf : f e h = .ok (.ref k) h) (hk : h[k]? = some (.lst (iz L))) (h1 : lo e h = .ok l h) (h2 : hi e h = .ok u h) : lCut f lo hi e h = .ok (iz (cut L l u)) h := by
  unfold lCut
  rw [hf]
  dsimp only [R.bind]
  rw [h1]
  dsimp only
  rw [h2]
  dsimp only
  unfold items
  dsimp only
  rw [hk]
  dsimp only
  rw [cut_map]
theorem lcat_run {f g : IEnv → IH → R (List IV)} {e : IEnv} {h : IH} {xs ys : List IV} (hf : f e h = .ok xs h) (hg : g e h = .ok ys h) (hz : xs.length + ys.length ≤ 2 ^ 20) : lCat f g e h = .ok (xs ++ ys) h := by
  unfold lCat
  rw [hf]
  dsimp only [R.bind]
  rw [hg]
  exact if_pos (Nat.le_trans hz (by decide))
theorem it_lstV {f : EM} {e : IEnv} {h h1 : IH} {k : Nat} {xs : List IV} (hf : f e h = .ok (.ref k) h1) (hk : h1[k]? = some (.lst xs)) : iLstV f e h = .ok (xs, stands k xs) h1 := by
  unfold iLstV
  rw [hf]
  dsimp only [R.bind]
  rw [hk]
theorem rngs_len {n : Int} {xs : List Int} (l : List Int) : ((fsts xs l).map (pth xs)).length ≤ l.length := by
  rw [List.length_map]
  exact List.length_filter_le ..
theorem app_run {k : Nat} {h : IH} {xs : List IV} {y : IV} (hk : h[k]? = some (.lst xs)) (hz : xs.length < 2 ^ 20) : mAppend (.ref k) [y] h = .ok .non (h.set k (.lst (xs ++ [y]))) := by
  have s2 : xs.length < sizeLine := Nat.lt_of_lt_of_le hz (by decide)
  simp only [mAppend, hk, if_pos s2]
theorem set_last (h : IH) (o o' : IO) : (h ++ [o]).set h.length o' = h ++ [o'] := by
  rw [List.set_append_right _ _ (Nat.le_refl _), Nat.sub_self]
  rfl
theorem at_last (h : IH) (o : IO) : (h ++ [o])[h.length]? = some o := by
  rw [List.getElem?_append_right (Nat.le_refl _), Nat.sub_self]; rfl
open Classical in
theorem f_rings_of {n : Int} {xs : List Int} (P : Pths n xs) (h : IH) (f : FlatH h) : F_rings_of [.tup (iz xs)] h = .ok (.ref h.length) (h ++ [.lst (itz (rngs xs n))]) := by
  have c := P.ch
  have h1 := c.len
  have h2 := c.lo
  have h3 := c.hi
  suffices q : okR (F_rings_of [.tup (iz xs)] h) fun v h1 => v = .ref h.length ∧ h1 = h ++ [.lst (itz (rngs xs n))] by
    obtain ⟨_, _, e, rfl, rfl⟩ := q.get
    exact e
  refine F_retE (F := F_rings_of) rfl rfl ?_
  show wpS (b_rings_of [some (.tup (iz xs)), none, none, none] h) _ _
  unfold b_rings_of
  have ol : (onr xs n).length ≤ 10 := by have := onr_len (xs := xs) (n := n); omega
  refine w_seq (w_asg (okR.of (eNew_run (lst_run (h1 := h) (xs := []) rfl (Nat.zero_le _))) ⟨[some (.tup (iz xs)), some (.ref h.length), none, none], _, rfl, ?_⟩))
  refine w_seq (w_for (fun j e h1 => ∃ a2 a3, e = [some (.tup (iz xs)), some (.ref h.length), a2, a3] ∧ h1 = h ++ [.lst (itz ((fsts xs ((onr xs n).take j)).map (pth xs)))])
    (it_tup (eC_run (vs := [.tup (iz xs)]) rfl (f_on P _))) ⟨_, _, rfl, rfl⟩ (fun _ _ _ _ _ => rfl) ?_ ?_)
  · rintro i hi e h1 ⟨b2, b3, rfl, rfl⟩
    have hi' : i < (onr xs n).length := by rw [List.length_map] at hi; exact hi
    have ei : (iz (onr xs n))[i] = .int (onr xs n)[i] := List.getElem_map ..
    rw [ei]
    have xm := onr_mem.mp (List.getElem_mem hi')
    have tm := fun z => take_mem (onr_sorted xs n) hi' (z := z)
    have tk := take_s hi'
    generalize (onr xs n)[i] = x at xm tm tk
    obtain ⟨⟨x0, x1⟩, ox⟩ := xm
    have ll : ((fsts xs ((onr xs n).take i)).map (pth xs)).length ≤ 10 := Nat.le_trans (rngs_len (n := n) _) (by rw [List.length_take]; omega)
    have seen : (∃ L ∈ (fsts xs ((onr xs n).take i)).map (pth xs), x ∈ L) ↔ ¬ Fst xs x := by
      rw [P.seen x0 x1 ox, Classical.not_not]
      constructor
      · rintro ⟨L, hL, hx⟩
        obtain ⟨z, hz, rfl⟩ := List.mem_map.mp hL
        obtain ⟨q1, q2⟩ := fsts_mem.mp hz
        obtain ⟨q3, q4⟩ := (tm z).mp q1
        obtain ⟨⟨q5, q6⟩, q7⟩ := onr_mem.mp q3
        exact ⟨z, q5, q4, q2, hx⟩
      · rintro ⟨z, z0, z1, fz, hz⟩
        exact ⟨pth xs z, List.mem_map.mpr ⟨z, fsts_mem.mpr ⟨(tm z).mpr ⟨onr_mem.mpr ⟨⟨z0, by omega⟩, fz.1⟩, z1⟩, fz⟩, rfl⟩, hz⟩
    refine ⟨[some (.tup (iz xs)), some (.ref h.length), some (.int x), b3], _, rfl, ?_⟩
    rw [tk, fsts_app, List.map_append]
    generalize (fsts xs ((onr xs n).take i)).map (pth xs) = Ls at ll seen
    have al := at_last h (.lst (itz Ls))
    have lc := lLc_map (own := [3]) (it := iLstV (eVar 1)) (g := gNm 3) (f := MM.e2 cIn (eVar 2) (eVar 3)) (e := [some (.tup (iz xs)), some (.ref h.length), some (.int x), b3]) (h := h ++ [.lst (itz Ls)]) (mk := fun L => IV.tup (iz L)) (mv := IV.bl) (v := fun L => L.contains x) (it_lstV rfl al) (stands_of al) (by omega) (fun L hL => ⟨_, rfl, e2_run' rfl rfl cin_iz⟩)
    have bl := bls_run (g := (·.any id)) lc
    have an : (Ls.map fun L => L.contains x).any id = decide (¬ Fst xs x) := by
      rw [Bool.eq_iff_iff, decide_eq_true_eq, ← seen, List.any_map, List.any_eq_true]
      constructor
      · rintro ⟨L, h1, h2⟩; exact ⟨L, h1, List.contains_iff_mem.mp h2⟩
      · rintro ⟨L, h1, h2⟩; exact ⟨L, h1, List.contains_iff_mem.mpr h2⟩
    rw [an] at bl
    refine w_if (okR.of (a := !decide (¬ Fst xs x)) (h := h ++ [.lst (itz Ls)]) ?_ ?_)
    · simp only [tNotM, toB, bl, R.bind]
    · by_cases fx : Fst xs x
      · rw [decide_eq_false (by simpa using fx), Bool.not_false, if_pos rfl, fsts_yes fx]
        obtain ⟨t, ht, e1, et, er⟩ := fst_self P x0 x1 fx
        have ra := f_ring_at P x0 x1 (h ++ [.lst (itz Ls)]) (f.app (itz_below 0 _)) ht e1 et er
        have ap := app_run (y := .tup (iz (pth xs x))) al (by rw [List.length_map]; omega)
        rw [set_last] at ap
        refine w_expr (okR.of (eMth_run (k := h.length) rfl al (aCons_run (eC_run (vs := [.tup (iz xs), .int x]) rfl ra) rfl) ap) ⟨_, _, rfl, ?_⟩)
        rw [itz, itz, List.map_append]
        rfl
      · rw [decide_eq_true fx, Bool.not_true, if_neg (by decide), fsts_no fx]
        refine w_nil ⟨_, _, rfl, ?_⟩
        rw [List.map_nil, List.append_nil]
  · rintro e h1 ⟨b2, b3, rfl, rfl⟩
    have el : (onr xs n).take (iz (onr xs n)).length = onr xs n := by rw [List.length_map, List.take_length]
    rw [el, fsts_onr]
    refine w_ret (okR.of (a := .ref h.length) (h := h ++ [.lst (itz (rngs xs n))]) rfl ?_)
    rw [fin_lst (f.app (itz_below 0 _)) (at_last h _) (Nat.le_refl _), List.take_left]
    exact .here ⟨rfl, rfl⟩
open Classical in
theorem f_lrings {n : Int} {xs : List Int} (P : Pths n xs) (h : IH) (f : FlatH h) : F__law_rings [.tup (iz xs)] h = .ok (.ref h.length) (h ++ [.lst (itz (rngs xs n))]) := by
  have c := P.ch
  have h1 := c.len
  have h2 := c.lo
  have h3 := c.hi
  suffices q : okR (F__law_rings [.tup (iz xs)] h) fun v h1 => v = .ref h.length ∧ h1 = h ++ [.lst (itz (rngs xs n))] by
    obtain ⟨_, _, e, rfl, rfl⟩ := q.get
    exact e
  refine F_retE (F := F__law_rings) rfl rfl ?_
  show wpS (b__law_rings [some (.tup (iz xs)), none, none, none, none, none, none] h) _ _
  unfold b__law_rings
  refine w_seq (w_asg (okR.of (eNew_run (lst_run (h1 := h) (xs := []) rfl (Nat.zero_le _))) ⟨[some (.tup (iz xs)), some (.ref h.length), none, none, none, none, none], _, rfl, ?_⟩))
  have ln : eLen (qV (eVar 0)) [some (.tup (iz xs)), some (.ref h.length), none, none, none, none, none] (h ++ [.lst []]) = .ok (.int n) (h ++ [.lst []]) := by simp only [List.map_cons, List.map_nil, List.cons_append, List.nil_append, List.length_cons, List.length_nil, Nat.zero_add, Nat.sub_self, Nat.reduceAdd, Nat.reduceSub, List.replicate_zero, List.replicate_succ, sRet, sRetN, sSeq, sIf, sExpr, sNil, sAsg, sPar, gNm, eAnd, eOr, eNot, eIf, eC, eCK, eTup, lLst, eNew, aCons, aNil, e1, e2, eVar, eK, eChain, eTuple, eLen, qV, items, toB, tAndM, tOrM, tNotM, bAdd, bSub, uInt, uNeg, cLe, cLt, cGt, cGe, R.bind, RS.of, List.getElem?_cons_zero, List.getElem?_cons_succ, List.set_cons_zero, List.set_cons_succ, gSb, ixN20, ixN21, List.zip_cons_cons, List.zip_nil_left, List.foldl_cons, List.foldl_nil, wpS_nx, wpS_rt, okR_ok, if_true, Bool.not_false, Bool.not_true, and_self, Bool.false_eq_true, if_false, List.length_map, h1]
  refine w_seq (w_for (fun j e h1 => ∃ a2 a3 a4 a5 a6, e = [some (.tup (iz xs)), some (.ref h.length), a2, a3, a4, a5, a6] ∧ FlatH h1 ∧ h1[h.length]? = some (.lst (itz ((fsts xs ((rng n).take j)).map (pth xs)))) ∧ h1.take h.length = h)
    (it_rg1 (n := n) ln (by omega) (by omega)) ⟨_, _, _, _, _, rfl, f.app rfl, at_last h _, List.take_left⟩ (fun _ _ _ _ _ => rfl) ?_ ?_)
  · rintro i hi e h1 ⟨b2, b3, b4, b5, b6, rfl, f1, al, tk1⟩
    have hi' : i < (rng n).length := by rw [List.length_map] at hi; exact hi
    have hin : i < n.toNat := by rw [rng_len] at hi'; exact hi'
    have ei : (iz (rng n))[i] = .int i := by rw [List.getElem_map, rng_get]
    rw [ei]
    have tk := take_s hi'
    rw [rng_get] at tk
    have x0 : (0 : Int) ≤ i := by omega
    have x1 : (i : Int) < n := by omega
    generalize (i : Int) = x at x0 x1 tk
    have ll : ((fsts xs ((rng n).take i)).map (pth xs)).length ≤ 10 := Nat.le_trans (rngs_len (n := n) _) (by rw [List.length_take]; omega)
    refine ⟨[some (.tup (iz xs)), some (.ref h.length), some (.int x), b3, b4, b5, b6], _, rfl, ?_⟩
    rw [tk, fsts_app, List.map_append]
    generalize (fsts xs ((rng n).take i)).map (pth xs) = Ls at ll al
    have hlt : h.length < h1.length := (List.getElem?_eq_some_iff.mp al).1
    obtain ⟨v, h2', q2, L, t, ht, rfl, rfl, hp, hm, et⟩ := (f_lway c x0 x1 h1).get
    have pl := pth_is hp
    have Ll := nodup_len hp.nd hm
    refine w_seq (w_asg (okR.of (eC_run (vs := [.tup (iz xs), .int x]) rfl q2) ⟨[some (.tup (iz xs)), some (.ref h.length), some (.int x), b3, some (.ref h1.length), some (.int t), b6], _, rfl, ?_⟩))
    have al2 := at_last h1 (.lst (iz L))
    have f2 : FlatH (h1 ++ [.lst (iz L)]) := f1.app (ints_below 0 _)
    have al1 : (h1 ++ [IO.lst (iz L)])[h.length]? = some (.lst (itz Ls)) := by rw [List.getElem?_append_left hlt]; exact al
    have tk2 : (h1 ++ [IO.lst (iz L)]).take h.length = h := by rw [List.take_append_of_le_length (by omega)]; exact tk1
    have lh2 : (h1 ++ [IO.lst (iz L)]).length = h1.length + 1 := by rw [List.length_append, List.length_singleton]
    generalize h1 ++ [IO.lst (iz L)] = g at al2 f2 al1 tk2 lh2
    have c0 := lcut_run (f := eVar 4) (lo := oS (eVar 5)) (hi := oN) (e := [some (.tup (iz xs)), some (.ref h.length), some (.int x), b3, some (.ref h1.length), some (.int t), b6]) (l := some (t : Int)) (u := none) rfl al2 rfl rfl
    rw [cut_hi (by omega) (by omega), Int.toNat_natCast] at c0
    refine w_seq (w_asg (okR.of (eNew_run c0) ⟨[some (.tup (iz xs)), some (.ref h.length), some (.int x), some (.ref g.length), some (.ref h1.length), some (.int t), b6], _, rfl, ?_⟩))
    have al3 := at_last g (.lst (iz (L.drop t)))
    have f3 : FlatH (g ++ [.lst (iz (L.drop t))]) := f2.app (ints_below 0 _)
    have al1' : (g ++ [IO.lst (iz (L.drop t))])[h.length]? = some (.lst (itz Ls)) := by rw [List.getElem?_append_left (by omega)]; exact al1
    have tk3 : (g ++ [IO.lst (iz (L.drop t))]).take h.length = h := by rw [List.take_append_of_le_length (by omega)]; exact tk2
    generalize g ++ [IO.lst (iz (L.drop t))] = g2 at al3 f3 al1' tk3
    generalize g.length = lg at al3
    obtain ⟨m, em, hmm, hle⟩ := minL_get (L := L.drop t) (by rw [List.length_drop]; omega)
    have mn : eInts minL (qLV (eVar 3)) [some (.tup (iz xs)), some (.ref h.length), some (.int x), some (.ref lg), some (.ref h1.length), some (.int t), b6] g2 = .ok (.int m) g2 := by
      have : qLV (eVar 3) [some (.tup (iz xs)), some (.ref h.length), some (.int x), some (.ref lg), some (.ref h1.length), some (.int t), b6] g2 = .ok (iz (L.drop t)) g2 := by
        unfold qLV itemsL
        rw [show eVar 3 [some (.tup (iz xs)), some (.ref h.length), some (.int x), some (.ref lg), some (.ref h1.length), some (.int t), b6] g2 = .ok (.ref lg) g2 from rfl]
        dsimp only [R.bind]
        rw [al3]
      unfold eInts
      rw [this]
      dsimp only [R.bind]
      rw [intsOf_ints]
      dsimp only
      rw [em]
    have zero : x = m ↔ Fst xs x := by
      constructor
      · intro e
        obtain ⟨j, hj, ej⟩ := List.getElem_of_mem hmm
        rw [List.length_drop] at hj
        rw [List.getElem_drop, ← e] at ej
        have q : L[t + j]'(by omega) = L[0]'hp.ne := by rw [ej, hp.zero]
        have q0 := (List.getElem_inj hp.nd).mp q
        have t0 : t = 0 := by omega
        subst t0
        have ox : OnR xs x := ⟨L.length, hp.ne, by rw [← et, hp.zero]⟩
        refine ⟨ox, fun y hy => ?_⟩
        rw [pl] at hy
        rw [e]
        exact hle y (by rw [List.drop_zero]; exact hy)
      · intro fx
        have cl := hp.close fx.1
        have q : L[t] = L[0]'hp.ne := by rw [et, cl, hp.zero]
        have t0 := (List.getElem_inj hp.nd).mp q
        subst t0
        rw [List.drop_zero] at hmm hle
        have a1 := fx.2 m (by rw [pl]; exact hmm)
        have a2 := hle x (by have := List.getElem_mem hp.ne; rw [hp.zero] at this; exact this)
        omega
    refine w_if (okR.of (a := decide (x = m)) (h := g2) (toB_run' (e2_run' rfl mn ceq_i)) ?_)
    by_cases fx : Fst xs x
    · rw [decide_eq_true (zero.mpr fx), if_pos rfl, fsts_yes fx]
      have cl := hp.close fx.1
      have q : L[t] = L[0]'hp.ne := by rw [et, cl, hp.zero]
      have t0 := (List.getElem_inj hp.nd).mp q
      subst t0
      rw [List.drop_zero] at al3
      have xL : x ∈ L := by have := List.getElem_mem hp.ne; rw [hp.zero] at this; exact this
      obtain ⟨j, hj, i1, i2⟩ := idx_iz xL
      have j0 : j = 0 := (List.getElem_inj hp.nd).mp (by rw [i2, hp.zero])
      subst j0
      have ix : mIndex (.ref lg) [.int x] g2 = .ok (.int (0 : Nat)) g2 := by
        have s1 : flat (.int x) = true ∧ (iz L).all flat = true := ⟨rfl, iz_flat L⟩
        simp only [mIndex, al3, if_pos s1, i1]
      refine w_seq (w_asg (okR.of (eMth_run (k := lg) rfl al3 (aCons_run rfl rfl) ix) ⟨[some (.tup (iz xs)), some (.ref h.length), some (.int x), some (.ref lg), some (.ref h1.length), some (.int (0 : Nat)), some (.int (0 : Nat))], _, rfl, ?_⟩))
      have d1 := lcut_run (f := eVar 3) (lo := oS (eVar 6)) (hi := oN) (e := [some (.tup (iz xs)), some (.ref h.length), some (.int x), some (.ref lg), some (.ref h1.length), some (.int (0 : Nat)), some (.int (0 : Nat))]) (l := some ((0 : Nat) : Int)) (u := none) rfl al3 rfl rfl
      have d2 := lcut_run (f := eVar 3) (lo := oN) (hi := oS (eVar 6)) (e := [some (.tup (iz xs)), some (.ref h.length), some (.int x), some (.ref lg), some (.ref h1.length), some (.int (0 : Nat)), some (.int (0 : Nat))]) (l := none) (u := some ((0 : Nat) : Int)) rfl al3 rfl rfl
      rw [cut_hi (by omega) (by omega), Int.toNat_natCast, List.drop_zero] at d1
      rw [cut_lo (by omega) (by omega), Int.toNat_natCast, List.take_zero] at d2
      have d3 := lcat_run d1 d2 (by simp; omega)
      rw [show iz ([] : List Int) = [] from rfl, List.append_nil] at d3
      have ap := app_run (y := .tup (iz L)) al1' (by rw [List.length_map]; omega)
      refine w_expr (okR.of (eMth_run (k := h.length) rfl al1' (aCons_run (tuple_run d3) rfl) ap) ⟨_, _, _, _, _, rfl, f3.set ?_, ?_, ?_⟩)
      · exact belows_app (itz_below 0 _) (by simp only [belows, below, ints_below, Bool.true_and])
      · rw [List.getElem?_set_self (List.getElem?_eq_some_iff.mp al1').1, itz, itz, List.map_append, List.map_cons, List.map_nil, pl]
        rfl
      · rw [List.take_set_of_le (Nat.le_refl _)]; exact tk3
    · rw [decide_eq_false (fun e => fx (zero.mp e)), if_neg (by decide), fsts_no fx]
      refine w_nil ⟨_, _, _, _, _, rfl, f3, ?_, tk3⟩
      rw [List.map_nil, List.append_nil]
      exact al1'
  · rintro e h1 ⟨b2, b3, b4, b5, b6, rfl, f1, al, tk1⟩
    have el : (rng n).take (iz (rng n)).length = rng n := by rw [List.length_map, List.take_length]
    rw [el] at al
    refine w_ret (okR.of (a := .ref h.length) (h := h1) rfl ?_)
    rw [fin_lst f1 al (Nat.le_refl _), tk1]
    exact .here ⟨rfl, rfl⟩
theorem lLc_map2 {own : List Nat} {it : ItM} {G : IH → Bool} {g : GM} {f : EM} {e : IEnv} {h h1 : IH} {α β : Type} {mk : α → IV} {v : α → β} {mv : β → IV} {xs : List α} (hit : it e h = .ok (xs.map mk, G) h1) (hG : G h1 = true) (hz : xs.length ≤ 2 ^ 20)
    (st : ∀ x ∈ xs, ∃ e1, g (mk x) (wipeE e own) h1 = some (e1, h1) ∧ f e1 h1 = .ok (mv (v x)) h1) : lLc own it g tYesM f e h = .ok ((xs.map v).map mv) h1 := by
  unfold lLc
  rw [hit]
  dsimp only [R.bind]
  rw [if_pos (by rw [List.length_map]; exact Nat.le_trans hz (by decide)), lc_map mk v mv hG xs st]
theorem lLc_pure2 {own : List Nat} {it : ItM} {G : IH → Bool} {g : GM} {c : IEnv → IH → R Bool} {f : EM} {e : IEnv} {h h1 : IH} {α β : Type} {mk : α → IV} {p : α → Bool} {v : α → β} {mv : β → IV} {xs : List α} (hit : it e h = .ok (xs.map mk, G) h1) (hG : G h1 = true) (hz : xs.length ≤ 2 ^ 20)
    (st : ∀ x ∈ xs, ∃ e1, g (mk x) (wipeE e own) h1 = some (e1, h1) ∧ c e1 h1 = .ok (p x) h1 ∧ (p x = true → f e1 h1 = .ok (mv (v x)) h1)) : lLc own it g c f e h = .ok (((xs.filter p).map v).map mv) h1 := by
  unfold lLc
  rw [hit]
  dsimp only [R.bind]
  rw [if_pos (by rw [List.length_map]; exact Nat.le_trans hz (by decide)), lc_pure mk p v mv hG xs st]
theorem ix_hd {h : IH} {k : Nat} {v : IV} {vs : List IV} (hk : h[k]? = some (.lst (v :: vs))) : bIx (.ref k) (.int 0) h = .ok v h := by
  have e : atI (v :: vs) 0 = some v := by
    rw [atI_at (Int.le_refl 0) (by simp only [List.length_cons]; omega)]
    rfl
  unfold bIx items
  dsimp only
  rw [hk]
  dsimp only
  rw [e]
theorem same_str {g : IH} (s : Str) : cNe (.str s) (.str s) g = .ok (.bl false) g := by
  rw [cne_s, beq_self_eq_true]
  rfl
theorem toD_itz (h : IH) (n : Nat) : ∀ Ls : List (List Int), optAll (toD h (n + 2)) (itz Ls) = some (Ls.map dtup)
  | [] => rfl
  | L :: Ls => by
    have ih := toD_itz h n Ls
    rw [show itz (L :: Ls) = IV.tup (iz L) :: itz Ls from rfl, optAll, ih, toD_tup]
    rfl
theorem toD_ref_itz {h : IH} {k n : Nat} {Ls : List (List Int)} (hk : h[k]? = some (.lst (itz Ls))) : toD h (n + 3) (.ref k) = some (.list (Ls.map dtup)) := by
  show (match h[k]? with
    | some (.lst ys) => (optAll (toD h (n + 2)) ys).map PyData.list
    | _ => none) = _
  rw [hk]
  dsimp only
  rw [toD_itz]
  rfl
theorem rp_itz {Ls : List (List Int)} (hz : Ls.length ≤ 10) (hs : ∀ L ∈ Ls, L.length ≤ 10 ∧ ∀ x ∈ L, x.natAbs < 10 ^ 12) : Rp 2 (10 * (10 * 42 + 1)) (.list (Ls.map dtup)) :=
  Rp.list (fun d hd => by
    obtain ⟨L, hL, rfl⟩ := List.mem_map.mp hd
    exact rp_tup (hs L hL).2 (hs L hL).1) (by rw [List.length_map]; exact hz)
theorem ne_nil_itz {f : IEnv → IH → R (List IV)} {e : IEnv} {h : IH} {Ls : List (List Int)} (hf : f e h = .ok (itz Ls) h) (fl : FlatH h) (hz : Ls.length ≤ 10) (hs : ∀ L ∈ Ls, L.length ≤ 10 ∧ ∀ x ∈ L, x.natAbs < 10 ^ 12) :
    gcT (toB (MM.e2 cNe (eNew f) (eNew (lLst aNil)))) e h = .ok (!Ls.isEmpty) h := by
  have shp : ∀ Ls : List (List Int), Ls.length ≤ 10 → (∀ L ∈ Ls, L.length ≤ 10 ∧ ∀ x ∈ L, x.natAbs < 10 ^ 12) → SeqAt.shaped (PyData.list (Ls.map dtup)) = true := fun Ls q1 q2 => by
    have r := rp_itz q1 q2
    have a := okD_all _ r.ok
    unfold SeqAt.shaped
    rw [a.1, decide_eq_true (Nat.le_trans r.dep (by decide))]; rfl
  have e1 := eNew_run hf
  have e2 := eNew_run (f := lLst aNil) (e := e) (h := h ++ [.lst (itz Ls)]) (h1 := h ++ [.lst (itz Ls)]) (xs := []) (lst_run rfl (Nat.zero_le _))
  have a1 : ((h ++ [IO.lst (itz Ls)]) ++ [IO.lst []])[h.length]? = some (.lst (itz Ls)) := by rw [List.getElem?_append_left (by rw [List.length_append, List.length_singleton]; omega)]; exact at_last h _
  have a2 := at_last (h ++ [IO.lst (itz Ls)]) (.lst (itz []))
  have q : cNe (.ref h.length) (.ref (h ++ [IO.lst (itz Ls)]).length) ((h ++ [.lst (itz Ls)]) ++ [.lst []]) = .ok (.bl (!Ls.isEmpty)) ((h ++ [.lst (itz Ls)]) ++ [.lst []]) := by
    show twoD _ _ _ _ = _
    unfold twoD
    have d2 : toD ((h ++ [IO.lst (itz Ls)]) ++ [IO.lst []]) 66 (.ref (h ++ [IO.lst (itz Ls)]).length) = some (.list (([] : List (List Int)).map dtup)) := toD_ref_itz (n := 63) (Ls := []) a2
    rw [toD_ref_itz (n := 63) a1, d2]
    dsimp only
    rw [if_pos ⟨shp Ls hz hs, shp [] (by simp) (by simp)⟩]
    cases Ls with
    | nil => rw [List.map_nil, SeqAt.eqv_refl _ rfl]; rfl
    | cons x xs => simp [PyData.eqv, PyData.eqvAll]
  unfold gcT
  rw [toB_run' (e2_run' e1 e2 q)]
  dsimp only
  unfold finB
  rw [if_pos ((((fl.app (itz_below 0 _))).app rfl).take _ _), List.append_assoc, List.take_left]
/-- a text of what was made for it -/
theorem reprL_gc {f : IEnv → IH → R (List IV)} {e : IEnv} {h h1 : IH} {vs : List IV} {ds : List PyData} {n w : Nat} (hf : f e h = .ok vs h1) (fl : FlatH h1) (tk : h1.take h.length = h) (hd : optAll (toD h1 66) vs = some ds) (r : Rp n w (.list ds)) (q1 : n ≤ 64) (q2 : w ≤ 2 ^ 20) : gcE (eReprL f) e h = .ok (.str (PyData.list ds).shown) h := by
  have e1 : eReprL f e h = .ok (.str (PyData.list ds).shown) h1 := by
    unfold eReprL
    rw [hf]
    dsimp only [R.bind]
    rw [hd]
    exact r.rpr q1 q2
  unfold gcE
  rw [e1]
  dsimp only
  rw [fin_val fl rfl, tk]
theorem rp_twoL {a b : PyData} {n w : Nat} (ha : Rp n w a) (hb : Rp n w b) : Rp (n + 1) (2 * (w + 1)) (.list [a, b]) :=
  Rp.list (fun d hd => by
    rcases List.mem_cons.mp hd with e | hd
    · rw [e]; exact ha
    · rw [List.mem_singleton] at hd; rw [hd]; exact hb) (Nat.le_refl 2)
theorem rngs_ok {n : Int} {xs : List Int} (P : Pths n xs) : (rngs xs n).length ≤ 10 ∧ ∀ r ∈ rngs xs n, r.length ≤ 10 ∧ (∀ x ∈ r, 0 ≤ x ∧ x < n) ∧ ∃ m, 0 ≤ m ∧ m < n ∧ Fst xs m ∧ r = pth xs m := by
  have hi := P.ch.hi
  refine ⟨Nat.le_trans (rngs_len (n := n) _) (by rw [rng_len]; omega), fun r hr => ?_⟩
  obtain ⟨m, hm, rfl⟩ := List.mem_map.mp hr
  obtain ⟨h1, h2⟩ := fsts_mem.mp hm
  have h3 := rng_mem.mp h1
  have ll := P.len h3.1 h3.2
  exact ⟨by omega, P.rg m h3.1 h3.2, m, h3.1, h3.2, h2, rfl⟩

theorem rp_twoI {a b : PyData} (ha : Rp 0 41 a) (hb : Rp 0 41 b) : Rp 1 (2 * 42) (.list [a, b]) := rp_twoL ha hb
/-- once true, always true: the place of the first true one is the number of the others -/
theorem idx_true : ∀ {bs : List Bool}, bs.Pairwise (fun a b => a = true → b = true) → true ∈ bs → idxOf (.bl true) (bs.map .bl) = some (bs.filter (! ·)).length
  | [], _, h => by cases h
  | true :: bs, hp, _ => by
    have hr : ∀ b ∈ bs, b = true := fun b hb => (List.pairwise_cons.mp hp).1 b hb rfl
    have e : bs.filter (! ·) = [] := List.filter_eq_nil_iff.mpr fun b hb => by rw [hr b hb]; decide
    rw [List.filter_cons_of_neg (by decide), e]
    show (if eqF (.bl true) (.bl true) = true then some 0 else (idxOf (.bl true) (bs.map .bl)).map (· + 1)) = _
    rw [if_pos (show eqF (.bl true) (.bl true) = true from rfl)]
    rfl
  | false :: bs, hp, h => by
    have hm : true ∈ bs := by
      rcases List.mem_cons.mp h with e | e
      · cases e
      · exact e
    have ih := idx_true (List.pairwise_cons.mp hp).2 hm
    rw [List.filter_cons_of_pos (by rfl), List.length_cons]
    show (if eqF (.bl false) (.bl true) = true then some 0 else (idxOf (.bl true) (bs.map .bl)).map (· + 1)) = _
    rw [if_neg (by decide), ih]
    rfl
noncomputable def isr (xs : List Int) (n : Int) (y : Int) : Bool := (onr xs n).contains y
/-- how many steps to a ring -/
noncomputable def dep (xs : List Int) (n x : Int) : Nat := ((pth xs x).filter fun y => ! isr xs n y).length
theorem isr_iff {xs : List Int} {n y : Int} (y0 : 0 ≤ y) (y1 : y < n) : isr xs n y = true ↔ OnR xs y := by
  unfold isr
  rw [List.contains_iff_mem, onr_mem]
  exact ⟨fun h => h.2, fun h => ⟨⟨y0, y1⟩, h⟩⟩
theorem dep_idx {n x : Int} {xs : List Int} (P : Pths n xs) (x0 : 0 ≤ x) (x1 : x < n) : idxOf (.bl true) (((pth xs x).map (isr xs n)).map .bl) = some (dep xs n x) := by
  have a := P.is x x0 x1
  obtain ⟨j, hj, ej⟩ := a.at_
  have oj := a.onR_of hj ej (Nat.le_refl _) hj
  have rj := P.rg x x0 x1 _ (List.getElem_mem hj)
  have q := idx_true (bs := (pth xs x).map (isr xs n)) ?_ ?_
  · rw [q]
    unfold dep
    rw [List.filter_map, List.length_map]
    rfl
  · rw [List.pairwise_map, List.pairwise_iff_getElem]
    intro i k hi hk hik h
    have ri := P.rg x x0 x1 _ (List.getElem_mem hi)
    have rk := P.rg x x0 x1 _ (List.getElem_mem hk)
    have oi := (isr_iff ri.1 ri.2).mp h
    refine (isr_iff rk.1 rk.2).mpr ?_
    have := oi.step (k - i)
    rw [a.get i hi, ← itn_add, show i + (k - i) = k by omega] at this
    rw [a.get k hk]
    exact this
  · exact List.mem_map.mpr ⟨_, List.getElem_mem hj, (isr_iff rj.1 rj.2).mpr oj⟩
noncomputable def deps (xs : List Int) (n : Int) : List Int := (rng n).map fun x => ((dep xs n x : Nat) : Int)
theorem f_depths_of {n : Int} {xs : List Int} (P : Pths n xs) (h : IH) (f : FlatH h) : F_depths_of [.tup (iz xs)] h = .ok (.tup (iz (deps xs n))) h := by
  have c := P.ch
  have h1 := c.len
  have h2 := c.lo
  have h3 := c.hi
  refine F_sameE (F := F_depths_of) rfl rfl ?_
  show wpS (b_depths_of [some (.tup (iz xs)), none, none, none] h) _ _
  unfold b_depths_of
  refine w_seq (w_asg (okR.of (eC_run (vs := [.tup (iz xs)]) rfl (f_on P h)) ⟨[some (.tup (iz xs)), some (.tup (iz (onr xs n))), none, none], _, rfl, ?_⟩))
  have ln : eLen (qV (eVar 0)) [some (.tup (iz xs)), some (.tup (iz (onr xs n))), none, none] h = .ok (.int n) h := by simp only [List.map_cons, List.map_nil, List.cons_append, List.nil_append, List.length_cons, List.length_nil, Nat.zero_add, Nat.sub_self, Nat.reduceAdd, Nat.reduceSub, List.replicate_zero, List.replicate_succ, sRet, sRetN, sSeq, sIf, sExpr, sNil, sAsg, sPar, gNm, eAnd, eOr, eNot, eIf, eC, eCK, eTup, lLst, eNew, aCons, aNil, e1, e2, eVar, eK, eChain, eTuple, eLen, qV, items, toB, tAndM, tOrM, tNotM, bAdd, bSub, uInt, uNeg, cLe, cLt, cGt, cGe, R.bind, RS.of, List.getElem?_cons_zero, List.getElem?_cons_succ, List.set_cons_zero, List.set_cons_succ, gSb, ixN20, ixN21, List.zip_cons_cons, List.zip_nil_left, List.foldl_cons, List.foldl_nil, wpS_nx, wpS_rt, okR_ok, if_true, Bool.not_false, Bool.not_true, and_self, Bool.false_eq_true, if_false, List.length_map, h1]
  have lc := lLc_map (own := [2]) (it := iRg1 (eLen (qV (eVar 0)))) (g := gNm 2) (f := gcE (eMth mIndex (eNew (lLc [3] (iTup (eC F_way_of (aCons (eVar 0) (aCons (eVar 2) (aNil))))) (gNm 3) (tYesM) (MM.e2 cIn (eVar 3) (eVar 1)))) (aCons (eK (.bl true)) (aNil)))) (e := [some (.tup (iz xs)), some (.tup (iz (onr xs n))), none, none]) (h := h) (mk := IV.int) (mv := IV.int) (v := fun x => ((dep xs n x : Nat) : Int)) (it_rg1 (n := n) ln (by omega) (by omega)) rfl (by rw [rng_len]; omega) (fun x hx => by
    have hm := rng_mem.mp hx
    have ll := P.len hm.1 hm.2
    refine ⟨[some (.tup (iz xs)), some (.tup (iz (onr xs n))), some (.int x), none], rfl, ?_⟩
    have inn := lLc_map (own := [3]) (it := iTup (eC F_way_of (aCons (eVar 0) (aCons (eVar 2) (aNil))))) (g := gNm 3) (f := MM.e2 cIn (eVar 3) (eVar 1)) (e := [some (.tup (iz xs)), some (.tup (iz (onr xs n))), some (.int x), none]) (h := h) (mk := IV.int) (mv := IV.bl) (v := isr xs n) (it_tup (eC_run (vs := [.tup (iz xs), .int x]) rfl (f_way P hm.1 hm.2 h f))) rfl (by omega) (fun y hy => ⟨_, rfl, e2_run' rfl rfl cin_iz⟩)
    have al := at_last h (.lst (((pth xs x).map (isr xs n)).map .bl))
    have ix : mIndex (.ref h.length) [.bl true] (h ++ [.lst (((pth xs x).map (isr xs n)).map .bl)]) = .ok (.int ((dep xs n x : Nat) : Int)) (h ++ [.lst (((pth xs x).map (isr xs n)).map .bl)]) := by
      have s1 : flat (.bl true) = true ∧ (((pth xs x).map (isr xs n)).map IV.bl).all flat = true := ⟨rfl, by rw [List.all_eq_true]; intro v hv; obtain ⟨b, _, rfl⟩ := List.mem_map.mp hv; rfl⟩
      simp only [mIndex, al, if_pos s1, dep_idx P hm.1 hm.2]
    unfold gcE
    rw [eMth_run (k := h.length) (eNew_run inn) al (aCons_run rfl rfl) ix]
    dsimp only
    have fl : FlatH (h ++ [.lst (((pth xs x).map (isr xs n)).map .bl)]) := f.app (by
      generalize (pth xs x).map (isr xs n) = bs
      induction bs with
      | nil => rfl
      | cons b bs ih => simp only [List.map_cons, belows, below, Bool.true_and]; exact ih)
    rw [fin_val fl rfl, List.take_left])
  exact w_ret (okR.of (tuple_run lc) ⟨rfl, rfl⟩)
theorem dep_le {n x : Int} {xs : List Int} (P : Pths n xs) (x0 : 0 ≤ x) (x1 : x < n) : dep xs n x ≤ 10 := by
  have := P.len x0 x1
  have := P.ch.hi
  exact Nat.le_trans (List.length_filter_le ..) (by omega)
theorem deps_get {n x : Int} {xs : List Int} (x0 : 0 ≤ x) (x1 : x < n) : geti (deps xs n) x = (dep xs n x : Nat) := geti_map _ x0 x1
theorem deps_ok {n : Int} {xs : List Int} (P : Pths n xs) : ((deps xs n).length : Int) = n ∧ ∀ d ∈ deps xs n, 0 ≤ d ∧ d ≤ 10 := by
  have := P.ch.lo
  refine ⟨by unfold deps; rw [List.length_map, rng_len]; omega, fun d hd => ?_⟩
  obtain ⟨x, hx, rfl⟩ := List.mem_map.mp hd
  have hm := rng_mem.mp hx
  have := dep_le P hm.1 hm.2
  omega
theorem f_depths {n : Int} {xs : List Int} (P : Pths n xs) (h : IH) (f : FlatH h) : F_depths [.tup (iz xs)] h = .ok (.tup (iz (deps xs n))) h := by
  refine F_sameE (F := F_depths) rfl rfl ?_
  show wpS (b_depths [some (.tup (iz xs))] h) _ _
  unfold b_depths
  exact w_seq (w_expr (okR.of (eC_run (vs := [.tup (iz xs)]) rfl (f_check_chart P.ch h)) (w_ret (okR.of (eC_run (vs := [.tup (iz xs)]) rfl (f_depths_of P h f)) ⟨rfl, rfl⟩))))
theorem f_depth {n x : Int} {xs : List Int} (P : Pths n xs) (x0 : 0 ≤ x) (x1 : x < n) (h : IH) (f : FlatH h) : F_depth [.tup (iz xs), .int x] h = .ok (.int (dep xs n x : Nat)) h := by
  have hl := P.ch.len
  have ix := ix_tup (xs := deps xs n) (i := x) (h := h) x0 (by rw [(deps_ok P).1]; exact x1)
  rw [deps_get x0 x1] at ix
  refine F_sameE (F := F_depth) rfl rfl ?_
  show wpS (b_depth [some (.tup (iz xs)), some (.int x)] h) _ _
  unfold b_depth
  refine w_seq (w_expr (okR.of (eC_run (vs := [.tup (iz xs)]) rfl (f_check_chart P.ch h)) (w_seq (w_expr (okR.of (eC_run (vs := [.int n, .int x]) ?_ (f_check_place h x0 x1)) (w_ret (okR.of (e2_run' (eC_run (vs := [.tup (iz xs)]) rfl (f_depths_of P h f)) rfl ix) ⟨rfl, rfl⟩)))))))
  simp only [List.map_cons, List.map_nil, List.cons_append, List.nil_append, List.length_cons, List.length_nil, Nat.zero_add, Nat.sub_self, Nat.reduceAdd, Nat.reduceSub, List.replicate_zero, List.replicate_succ, sRet, sRetN, sSeq, sIf, sExpr, sNil, sAsg, sPar, gNm, eAnd, eOr, eNot, eIf, eC, eCK, eTup, lLst, eNew, aCons, aNil, e1, e2, eVar, eK, eChain, eTuple, eLen, qV, items, toB, tAndM, tOrM, tNotM, bAdd, bSub, uInt, uNeg, cLe, cLt, cGt, cGe, R.bind, RS.of, List.getElem?_cons_zero, List.getElem?_cons_succ, List.set_cons_zero, List.set_cons_succ, gSb, ixN20, ixN21, List.zip_cons_cons, List.zip_nil_left, List.foldl_cons, List.foldl_nil, wpS_nx, wpS_rt, okR_ok, if_true, Bool.not_false, Bool.not_true, and_self, Bool.false_eq_true, if_false, List.length_map, hl]
theorem maxL_get {L : List Int} (h : 0 < L.length) : ∃ m, maxL L = some m ∧ m ∈ L := by
  cases L with
  | nil => simp at h
  | cons x xs => exact ⟨_, rfl, (maxL_fold xs x).1⟩
theorem hgt_ex {n : Int} {xs : List Int} (P : Pths n xs) : ∃ m, maxL (deps xs n) = some m ∧ 0 ≤ m ∧ m ≤ 10 := by
  have a := deps_ok P
  have := P.ch.lo
  obtain ⟨m, e, hm⟩ := maxL_get (L := deps xs n) (by omega)
  exact ⟨m, e, a.2 m hm⟩
theorem maxT_run {f : EM} {e : IEnv} {h : IH} {xs : List Int} {m : Int} (hf : f e h = .ok (.tup (iz xs)) h) (hm : maxL xs = some m) : eInts maxL (qTV f) e h = .ok (.int m) h := by
  unfold eInts qTV
  rw [hf]
  dsimp only [R.bind]
  rw [intsOf_ints]
  dsimp only
  rw [hm]
theorem f_height_of {n m : Int} {xs : List Int} (P : Pths n xs) (hm : maxL (deps xs n) = some m) (h : IH) (f : FlatH h) : F_height_of [.tup (iz xs)] h = .ok (.int m) h :=
  F_sameE (F := F_height_of) rfl rfl (w_ret (okR.of (maxT_run (eC_run (vs := [.tup (iz xs)]) rfl (f_depths_of P h f)) hm) ⟨rfl, rfl⟩))
theorem f_height {n m : Int} {xs : List Int} (P : Pths n xs) (hm : maxL (deps xs n) = some m) (h : IH) (f : FlatH h) : F_height [.tup (iz xs)] h = .ok (.int m) h := by
  refine F_sameE (F := F_height) rfl rfl ?_
  show wpS (b_height [some (.tup (iz xs))] h) _ _
  unfold b_height
  exact w_seq (w_expr (okR.of (eC_run (vs := [.tup (iz xs)]) rfl (f_check_chart P.ch h)) (w_ret (okR.of (eC_run (vs := [.tup (iz xs)]) rfl (f_height_of P hm h f)) ⟨rfl, rfl⟩))))
/-! the period -/
def lcmL (ls : List Nat) : Nat := ls.foldl Nat.lcm 1
theorem lcm_fold_dvd {m : Nat} : ∀ (ls : List Nat) (a : Nat), ls.foldl Nat.lcm a ∣ m ↔ a ∣ m ∧ ∀ l ∈ ls, l ∣ m
  | [], a => by simp
  | l :: ls, a => by
    rw [List.foldl_cons, lcm_fold_dvd ls, Nat.lcm_dvd_iff]
    simp only [List.mem_cons, forall_eq_or_imp]
    exact ⟨fun ⟨⟨p, q⟩, r⟩ => ⟨p, q, r⟩, fun ⟨p, q, r⟩ => ⟨⟨p, q⟩, r⟩⟩
theorem lcmL_dvd {m : Nat} {ls : List Nat} : lcmL ls ∣ m ↔ ∀ l ∈ ls, l ∣ m := by
  unfold lcmL
  rw [lcm_fold_dvd]
  exact ⟨fun h => h.2, fun h => ⟨Nat.one_dvd _, h⟩⟩
theorem dvd2520 {l : Nat} (h1 : 1 ≤ l) (h2 : l ≤ 10) : l ∣ 2520 := by
  have : l = 1 ∨ l = 2 ∨ l = 3 ∨ l = 4 ∨ l = 5 ∨ l = 6 ∨ l = 7 ∨ l = 8 ∨ l = 9 ∨ l = 10 := by omega
  rcases this with rfl | rfl | rfl | rfl | rfl | rfl | rfl | rfl | rfl | rfl <;> decide
theorem lcmL_le {ls : List Nat} (h : ∀ l ∈ ls, 1 ≤ l ∧ l ≤ 10) : 1 ≤ lcmL ls ∧ lcmL ls ≤ 2520 := by
  have d : lcmL ls ∣ 2520 := lcmL_dvd.mpr fun l hl => dvd2520 (h l hl).1 (h l hl).2
  exact ⟨Nat.pos_of_dvd_of_pos d (by decide), Nat.le_of_dvd (by decide) d⟩
noncomputable def lens (xs : List Int) (n : Int) : List Nat := (rngs xs n).map List.length
theorem lens_ok {n : Int} {xs : List Int} (P : Pths n xs) : (lens xs n).length ≤ 10 ∧ ∀ l ∈ lens xs n, 1 ≤ l ∧ l ≤ 10 := by
  have ro := rngs_ok P
  refine ⟨by unfold lens; rw [List.length_map]; exact ro.1, fun l hl => ?_⟩
  obtain ⟨r, hr, rfl⟩ := List.mem_map.mp hl
  obtain ⟨h1, h2, m, m0, m1, fm, rfl⟩ := ro.2 r hr
  exact ⟨(P.is m m0 m1).ne, h1⟩
theorem f_period_of {n : Int} {xs : List Int} (P : Pths n xs) (h : IH) (f : FlatH h) : F_period_of [.tup (iz xs)] h = .ok (.int (lcmL (lens xs n) : Nat)) h := by
  have ro := rngs_ok P
  have lo := lens_ok P
  suffices q : okR (F_period_of [.tup (iz xs)] h) fun v h1 => v = .int (lcmL (lens xs n) : Nat) ∧ h1 = h by
    obtain ⟨_, _, e, rfl, rfl⟩ := q.get
    exact e
  refine F_retE (F := F_period_of) rfl rfl ?_
  show wpS (b_period_of [some (.tup (iz xs)), none, none] h) _ _
  unfold b_period_of
  refine w_seq (w_asg (okR.of (a := .int 1) (h := h) rfl ⟨[some (.tup (iz xs)), some (.int 1), none], _, rfl, ?_⟩))
  have al := at_last h (.lst (itz (rngs xs n)))
  have fl : FlatH (h ++ [.lst (itz (rngs xs n))]) := f.app (itz_below 0 _)
  refine w_seq (w_for (fun j e g => ∃ a2, e = [some (.tup (iz xs)), some (.int (lcmL ((lens xs n).take j) : Nat)), a2] ∧ g = h ++ [.lst (itz (rngs xs n))])
    (it_lstV (eC_run (vs := [.tup (iz xs)]) rfl (f_rings_of P h f)) al) ⟨_, rfl, rfl⟩ (fun j e g _ ⟨_, _, hg⟩ => by rw [hg]; exact stands_of al) ?_ ?_)
  · rintro i hi e g ⟨b2, rfl, rfl⟩
    have hi' : i < (rngs xs n).length := by rw [List.length_map] at hi; exact hi
    rw [show (itz (rngs xs n))[i] = .tup (iz (rngs xs n)[i]) from List.getElem_map ..]
    have hr := ro.2 _ (List.getElem_mem hi')
    have hil : i < (lens xs n).length := by unfold lens; rw [List.length_map]; exact hi'
    have eil : (lens xs n)[i]'hil = ((rngs xs n)[i]'hi').length := List.getElem_map (l := rngs xs n) (i := i) List.length (h := hil)
    have tk : (lens xs n).take (i + 1) = (lens xs n).take i ++ [((rngs xs n)[i]).length] := by rw [List.take_succ, List.getElem?_eq_getElem hil, eil]; rfl
    have lb := lo.2 _ (List.getElem_mem hil)
    rw [eil] at lb
    have ab := lcmL_le (ls := (lens xs n).take i) fun l hl => lo.2 l (List.mem_of_mem_take hl)
    rw [tk, show lcmL ((lens xs n).take i ++ [((rngs xs n)[i]).length]) = Nat.lcm (lcmL ((lens xs n).take i)) ((rngs xs n)[i]).length by unfold lcmL; rw [List.foldl_append]; rfl]
    generalize lcmL ((lens xs n).take i) = a at ab
    generalize (rngs xs n)[i] = r at lb
    refine ⟨[some (.tup (iz xs)), some (.int (a : Nat)), some (.tup (iz r))], _, rfl, ?_⟩
    generalize h ++ [IO.lst (itz (rngs xs n))] = g
    have ln : eLen (qV (eVar 2)) [some (.tup (iz xs)), some (.int (a : Nat)), some (.tup (iz r))] g = .ok (.int r.length) g := by simp only [List.map_cons, List.map_nil, List.cons_append, List.nil_append, List.length_cons, List.length_nil, Nat.zero_add, Nat.sub_self, Nat.reduceAdd, Nat.reduceSub, List.replicate_zero, List.replicate_succ, sRet, sRetN, sSeq, sIf, sExpr, sNil, sAsg, sPar, gNm, eAnd, eOr, eNot, eIf, eC, eCK, eTup, lLst, eNew, aCons, aNil, e1, e2, eVar, eK, eChain, eTuple, eLen, qV, items, toB, tAndM, tOrM, tNotM, bAdd, bSub, uInt, uNeg, cLe, cLt, cGt, cGe, R.bind, RS.of, List.getElem?_cons_zero, List.getElem?_cons_succ, List.set_cons_zero, List.set_cons_succ, gSb, ixN20, ixN21, List.zip_cons_cons, List.zip_nil_left, List.foldl_cons, List.foldl_nil, wpS_nx, wpS_rt, okR_ok, if_true, Bool.not_false, Bool.not_true, and_self, Bool.false_eq_true, if_false, List.length_map]
    have ml : bMul (.int (a : Nat)) (.int r.length) g = .ok (.int ((a * r.length : Nat) : Int)) g := by rw [Int.natCast_mul]; exact mul_ii (by omega) (by omega)
    have gp : 0 < Nat.gcd a r.length := Nat.gcd_pos_of_pos_left _ (by omega)
    have gl : Nat.gcd a r.length ≤ a := Nat.gcd_le_left _ (by omega)
    have gd : bGcd (.int (a : Nat)) (.int r.length) g = .ok (.int (Nat.gcd a r.length : Nat)) g := rfl
    have dv : bDiv (.int ((a * r.length : Nat) : Int)) (.int (Nat.gcd a r.length : Nat)) g = .ok (.int (Nat.lcm a r.length : Nat)) g := by
      rw [div_ii (by omega) (by omega)]
      rfl
    exact w_asg (okR.of (e2_run' (e2_run' rfl ln ml) (e2_run' rfl ln gd) dv) ⟨_, _, rfl, _, rfl, rfl⟩)
  · rintro e g ⟨b2, rfl, rfl⟩
    rw [show (lens xs n).take (itz (rngs xs n)).length = lens xs n by rw [List.length_map, show (rngs xs n).length = (lens xs n).length by unfold lens; rw [List.length_map], List.take_length]]
    refine w_ret (okR.of (a := .int (lcmL (lens xs n) : Nat)) (h := h ++ [.lst (itz (rngs xs n))]) rfl ?_)
    rw [fin_val fl rfl, List.take_left]
    exact .here ⟨rfl, rfl⟩
theorem f_period {n : Int} {xs : List Int} (P : Pths n xs) (h : IH) (f : FlatH h) : F_period [.tup (iz xs)] h = .ok (.int (lcmL (lens xs n) : Nat)) h := by
  refine F_sameE (F := F_period) rfl rfl ?_
  show wpS (b_period [some (.tup (iz xs))] h) _ _
  unfold b_period
  exact w_seq (w_expr (okR.of (eC_run (vs := [.tup (iz xs)]) rfl (f_check_chart P.ch h)) (w_ret (okR.of (eC_run (vs := [.tup (iz xs)]) rfl (f_period_of P h f)) ⟨rfl, rfl⟩))))
theorem f_first_repeat {n m N : Int} {xs : List Int} (P : Pths n xs) (hm : maxL (deps xs n) = some m) (N0 : 0 ≤ N) (h : IH) (f : FlatH h) : F_first_repeat [.tup (iz xs), .int N] h = .ok (if m ≤ N then .int (N + (lcmL (lens xs n) : Nat)) else .non) h := by
  refine F_sameE (F := F_first_repeat) rfl rfl ?_
  show wpS (b_first_repeat [some (.tup (iz xs)), some (.int N)] h) _ _
  unfold b_first_repeat
  refine w_seq (w_expr (okR.of (eC_run (vs := [.tup (iz xs)]) rfl (f_check_chart P.ch h)) (w_seq (w_expr (okR.of (eC_run (vs := [.int N]) rfl (f_check_number N h N0)) (w_ret ?_))))))
  have t : toB (MM.e2 cGe (eVar 1) (eC F_height_of (aCons (eVar 0) (aNil)))) [some (.tup (iz xs)), some (.int N)] h = .ok (decide (m ≤ N)) h := toB_run' (e2_run' rfl (eC_run (vs := [.tup (iz xs)]) rfl (f_height_of P hm h f)) rfl)
  have ad : MM.e2 bAdd (eVar 1) (eC F_period_of (aCons (eVar 0) (aNil))) [some (.tup (iz xs)), some (.int N)] h = .ok (.int (N + (lcmL (lens xs n) : Nat))) h := e2_run' rfl (eC_run (vs := [.tup (iz xs)]) rfl (f_period_of P h f)) rfl
  unfold eIf
  rw [t]
  dsimp only [R.bind]
  by_cases hc : m ≤ N
  · rw [decide_eq_true hc, if_pos rfl, if_pos hc, ad]
    exact .here ⟨rfl, rfl⟩
  · rw [decide_eq_false hc, if_neg (by decide), if_neg hc]
    exact okR.of (a := .non) (h := h) rfl ⟨rfl, rfl⟩
theorem cmp_nil_iz {b : Bool} {o : IV → IV → IH → R IV} (ho : ∀ i j h, o (.ref i) (.ref j) h = twoD (.ref i) (.ref j) h fun d e => .ok (.bl (b ^^ PyData.eqv d e)) h) {f : IEnv → IH → R (List IV)} {e : IEnv} {h : IH} {Ls : List Int} (hf : f e h = .ok (iz Ls) h) (fl : FlatH h) (hz : Ls.length ≤ 1000) (hs : ∀ x ∈ Ls, x.natAbs < 10 ^ 12) :
    gcT (toB (MM.e2 o (eNew f) (eNew (lLst aNil)))) e h = .ok (b ^^ Ls.isEmpty) h := by
  have shp : ∀ xs : List Int, xs.length ≤ 1000 → (∀ x ∈ xs, x.natAbs < 10 ^ 12) → SeqAt.shaped (PyData.list (xs.map .int)) = true := fun xs q1 q2 => by
    have r := rp_lst q2 q1
    have a := okD_all _ r.ok
    unfold SeqAt.shaped
    rw [a.1, decide_eq_true (Nat.le_trans r.dep (by decide))]; rfl
  have td : ∀ (xs : List Int) (j : Nat) (h1 : IH), h1[j]? = some (.lst (iz xs)) → toD h1 66 (.ref j) = some (PyData.list (xs.map .int)) := fun xs j h1 q => by
    show (match h1[j]? with
      | some (.lst ys) => (optAll (toD h1 65) ys).map PyData.list
      | _ => none) = _
    rw [q]
    dsimp only
    rw [toD_iz]
    rfl
  have e1 := eNew_run hf
  have e2 := eNew_run (f := lLst aNil) (e := e) (h := h ++ [.lst (iz Ls)]) (h1 := h ++ [.lst (iz Ls)]) (xs := []) (lst_run rfl (Nat.zero_le _))
  have a1 : ((h ++ [IO.lst (iz Ls)]) ++ [IO.lst []])[h.length]? = some (.lst (iz Ls)) := by rw [List.getElem?_append_left (by rw [List.length_append, List.length_singleton]; omega)]; exact at_last h _
  have a2 := at_last (h ++ [IO.lst (iz Ls)]) (.lst (iz []))
  have q : o (.ref h.length) (.ref (h ++ [IO.lst (iz Ls)]).length) ((h ++ [.lst (iz Ls)]) ++ [.lst []]) = .ok (.bl (b ^^ Ls.isEmpty)) ((h ++ [.lst (iz Ls)]) ++ [.lst []]) := by
    rw [ho]
    unfold twoD
    have d2 : toD ((h ++ [IO.lst (iz Ls)]) ++ [IO.lst []]) 66 (.ref (h ++ [IO.lst (iz Ls)]).length) = some (.list (([] : List Int).map .int)) := td [] _ _ a2
    rw [td Ls _ _ a1, d2]
    dsimp only
    rw [if_pos ⟨shp Ls hz hs, shp [] (by simp) (by simp)⟩, List.map_nil, eqv_nil]
  unfold gcT
  rw [toB_run' (e2_run' e1 e2 q)]
  dsimp only
  unfold finB
  rw [if_pos ((((fl.app (ints_below 0 _))).app rfl).take _ _), List.append_assoc, List.take_left]
theorem ne_nil_iz {f : IEnv → IH → R (List IV)} {e : IEnv} {h : IH} {Ls : List Int} (hf : f e h = .ok (iz Ls) h) (fl : FlatH h) (hz : Ls.length ≤ 1000) (hs : ∀ x ∈ Ls, x.natAbs < 10 ^ 12) :
    gcT (toB (MM.e2 cNe (eNew f) (eNew (lLst aNil)))) e h = .ok (!Ls.isEmpty) h := by
  have z := cmp_nil_iz (b := true) (o := cNe) (fun _ _ _ => by show twoD _ _ _ _ = _; simp only [Bool.true_xor]) hf fl hz hs
  rw [Bool.true_xor] at z
  exact z
theorem eq_nil_iz {f : IEnv → IH → R (List IV)} {e : IEnv} {h : IH} {Ls : List Int} (hf : f e h = .ok (iz Ls) h) (fl : FlatH h) (hz : Ls.length ≤ 1000) (hs : ∀ x ∈ Ls, x.natAbs < 10 ^ 12) :
    gcT (toB (MM.e2 cEq (eNew f) (eNew (lLst aNil)))) e h = .ok Ls.isEmpty h := by
  have z := cmp_nil_iz (b := false) (o := cEq) (fun _ _ _ => by show twoD _ _ _ _ = _; simp only [Bool.false_xor]) hf fl hz hs
  rw [Bool.false_xor] at z
  exact z
theorem f_least {k : Nat} {ls : List Nat} (lo : ls.length ≤ 10 ∧ ∀ l ∈ ls, 1 ≤ l ∧ l ≤ 10) (h : IH) (f : FlatH h) (hk : h[k]? = some (.lst (iz (ls.map Int.ofNat)))) : F__law_least [.ref k] h = .ok (.int (lcmL ls : Nat)) h := by
  have ab := lcmL_le lo.2
  refine F_sameE (F := F__law_least) rfl rfl ?_
  show wpS (b__law_least [some (.ref k), none, none] h) _ _
  unfold b__law_least
  refine w_seq (w_asg (okR.of (a := .int 1) (h := h) rfl ⟨[some (.ref k), some (.int 1), none], _, rfl, ?_⟩))
  refine w_seq (w_while (fun m e g => ∃ c : Nat, e = [some (.ref k), some (.int c), none] ∧ g = h ∧ 1 ≤ c ∧ m + c = lcmL ls) (lcmL ls - 1) (by show _ < 100000; omega) ⟨1, rfl, rfl, Nat.le_refl 1, by omega⟩ ?_)
  rintro m e g ⟨c, rfl, rfl, c1, mc⟩
  have inn := lLc_pure2 (own := [2]) (it := iLstV (eVar 0)) (g := gNm 2) (c := toB (MM.e2 cGt (MM.e2 bMod (MM.e1 uInt (eVar 1)) (eVar 2)) (eK (.int 0)))) (f := eVar 2) (e := [some (.ref k), some (.int c), none]) (h := g) (h1 := g) (mk := fun z : Int => IV.int z) (mv := fun z : Int => IV.int z) (v := id) (p := fun z => decide (0 < (c : Int) % z)) (xs := ls.map Int.ofNat) (it_lstV rfl hk) (stands_of hk) (by rw [List.length_map]; exact Nat.le_trans lo.1 (by decide)) (fun z hz => by
    obtain ⟨l, hl, rfl⟩ := List.mem_map.mp hz
    have l1 := (lo.2 l hl).1
    exact ⟨_, rfl, toB_run' (e2_run' (e2_run' rfl rfl (mod_ii (by show (0 : Int) < (l : Int); omega))) rfl rfl), fun _ => rfl⟩)
  rw [List.map_id] at inn
  refine okR.of (ne_nil_iz inn f (Nat.le_trans (List.length_filter_le ..) (by rw [List.length_map]; omega)) fun z hz => ?_) ?_
  · obtain ⟨l, hl, rfl⟩ := List.mem_map.mp (List.mem_filter.mp hz).1
    have l1 := (lo.2 l hl).2
    show (l : Int).natAbs < _
    omega
  · cases hE : (List.filter (fun z : Int => decide (0 < (c : Int) % z)) (ls.map Int.ofNat)).isEmpty with
    | true =>
      rw [Bool.not_true, if_neg (by decide)]
      have dv : lcmL ls ∣ c := lcmL_dvd.mpr fun l hl => by
        have l1 := (lo.2 l hl).1
        have nn := List.filter_eq_nil_iff.mp (List.isEmpty_iff.mp hE) (Int.ofNat l) (List.mem_map_of_mem hl)
        rw [decide_eq_true_eq] at nn
        have : (c : Int) % (l : Int) = 0 := by
          have := Int.emod_nonneg (c : Int) (b := (l : Int)) (by omega)
          show (c : Int) % (Int.ofNat l) = 0
          change ¬ (0 < (c : Int) % (l : Int)) at nn
          change 0 ≤ (c : Int) % (l : Int) at this
          show (c : Int) % (l : Int) = 0
          omega
        exact Nat.dvd_of_mod_eq_zero (by omega)
      have le := Nat.le_of_dvd (by omega) dv
      have ce : c = lcmL ls := by omega
      rw [← ce]
      exact w_ret (okR.of (a := .int c) (h := g) rfl ⟨rfl, rfl⟩)
    | false =>
      rw [Bool.not_false, if_pos rfl]
      have nd : c ≠ lcmL ls := fun ce => by
        have : (List.filter (fun z : Int => decide (0 < (c : Int) % z)) (ls.map Int.ofNat)) = [] := List.filter_eq_nil_iff.mpr fun z hz => by
          obtain ⟨l, hl, rfl⟩ := List.mem_map.mp hz
          have d : l ∣ c := lcmL_dvd.mp (by rw [ce]; exact Nat.dvd_refl _) l hl
          rw [decide_eq_true_eq]
          have : (c : Int) % (l : Int) = 0 := by
            have := Nat.mod_eq_zero_of_dvd d
            omega
          show ¬ (0 < (c : Int) % (l : Int))
          omega
        rw [this] at hE
        cases hE
      refine ⟨by omega, w_asg (okR.of (a := .int ((c + 1 : Nat) : Int)) (h := g) rfl ⟨_, _, rfl, m - 1, by omega, c + 1, rfl, rfl, by omega, by omega⟩)⟩
/-! children -/
theorem empties_run {i : Nat} {e : IEnv} : ∀ (xs : List IV) (h : IH), lcM (fun _ => true) (gNm i) tYesM (eNew (lLst aNil)) e xs h = .ok ((List.range xs.length).map fun j => IV.ref (h.length + j)) (h ++ List.replicate xs.length (.lst []))
  | [], h => by
    show R.ok [] h = R.ok [] (h ++ [])
    rw [List.append_nil]
  | x :: xs, h => by
    have e1 : ∀ e1, eNew (lLst aNil) e1 h = .ok (.ref h.length) (h ++ [.lst []]) := fun e1 => eNew_run (lst_run rfl (Nat.zero_le _))
    have ih := empties_run (i := i) (e := e) xs (h ++ [.lst []])
    show ((R.ok true h).nox.bind fun t h2 => if t = true then (eNew (lLst aNil) (e.set i (some x)) h2).nox.bind fun y h3 => (lcM (fun _ => true) (gNm i) tYesM (eNew (lLst aNil)) e xs h3).bind fun ys h4 => .ok (y :: ys) h4 else lcM (fun _ => true) (gNm i) tYesM (eNew (lLst aNil)) e xs h2) = _
    dsimp only [R.nox, R.bind]
    rw [if_pos rfl, e1]
    dsimp only [R.nox, R.bind]
    rw [ih]
    dsimp only
    rw [List.length_cons, List.range_succ_eq_map, List.map_cons, List.map_map, List.replicate_succ, List.append_assoc, List.length_append, List.length_singleton, Nat.add_zero]
    congr 2
    refine List.map_congr_left fun j _ => ?_
    show IV.ref (h.length + 1 + j) = IV.ref (h.length + (j + 1))
    congr 1
    omega
noncomputable def chs (xs : List Int) (n : Int) (j : Nat) (y : Int) : List Int := (rng j).filter fun x => decide (geti xs x = y) && !(onr xs n).contains x
noncomputable def chsH (xs : List Int) (n : Int) (j : Nat) : IH := (rng n).map fun y => .lst (iz (chs xs n j y))
def refsR (b : Nat) (n : Int) : List IV := (List.range n.toNat).map fun j => IV.ref (b + j)
theorem chs_succ (xs : List Int) (n : Int) (j : Nat) (y : Int) : chs xs n (j + 1) y = chs xs n j y ++ (if geti xs j = y ∧ (onr xs n).contains (j : Int) = false then [(j : Int)] else []) := by
  have r : rng ((j + 1 : Nat) : Int) = rng (j : Int) ++ [(j : Int)] := by
    unfold rng
    rw [Int.toNat_natCast, Int.toNat_natCast, List.range_succ, List.map_append]
    rfl
  unfold chs
  rw [r, List.filter_append]
  congr 1
  rw [List.filter_cons, List.filter_nil]
  by_cases h1 : geti xs j = y <;> cases h2 : (onr xs n).contains (j : Int) <;> simp [h1]
theorem chsH_get {xs : List Int} {n y : Int} {j : Nat} {h : IH} {t : IH} (y0 : 0 ≤ y) (y1 : y < n) : (h ++ (chsH xs n j ++ t))[h.length + y.toNat]? = some (.lst (iz (chs xs n j y))) := by
  rw [List.getElem?_append_right (by omega), Nat.add_sub_cancel_left, List.getElem?_append_left (by unfold chsH; rw [List.length_map, rng_len]; omega)]
  unfold chsH
  rw [List.getElem?_map, rng_get? (by omega), Int.toNat_of_nonneg y0]
  rfl
theorem refs_get {xs : List Int} {n : Int} {j : Nat} {h : IH} : (h ++ (chsH xs n j ++ [IO.lst (refsR h.length n)]))[h.length + n.toNat]? = some (.lst (refsR h.length n)) := by
  rw [← List.append_assoc]
  have : h.length + n.toNat = (h ++ chsH xs n j).length := by unfold chsH; rw [List.length_append, List.length_map, rng_len]
  rw [this]
  exact at_last _ _
theorem refs_ix {h : IH} {k b : Nat} {n y : Int} (hk : h[k]? = some (.lst (refsR b n))) (y0 : 0 ≤ y) (y1 : y < n) : bIx (.ref k) (.int y) h = .ok (.ref (b + y.toNat)) h := by
  have e : atI (refsR b n) y = some (.ref (b + y.toNat)) := by
    rw [atI_at y0 (by unfold refsR; rw [List.length_map, List.length_range]; omega)]
    unfold refsR
    rw [List.getElem?_map, List.getElem?_range (by omega)]
    rfl
  unfold bIx items
  dsimp only
  rw [hk]
  dsimp only
  rw [e]
theorem chsH_set {xs : List Int} {n : Int} {j : Nat} (y1 : 0 ≤ geti xs j) (hc : (onr xs n).contains (j : Int) = false) : (chsH xs n j).set (geti xs j).toNat (.lst (iz (chs xs n j (geti xs j)) ++ [.int j])) = chsH xs n (j + 1) := by
  refine List.ext_getElem? fun i => ?_
  rw [List.getElem?_set]
  unfold chsH
  rw [List.length_map, rng_len, List.getElem?_map, List.getElem?_map]
  by_cases hi : i < n.toNat
  · rw [rng_get? hi, Option.map_some, Option.map_some, chs_succ]
    by_cases e : (geti xs j).toNat = i
    · have e2 : geti xs j = (i : Int) := by omega
      rw [if_pos e, if_pos (by omega), if_pos ⟨e2, hc⟩, e2]
      unfold iz
      rw [List.map_append]
      rfl
    · rw [if_neg e, if_neg (fun q => e (by rw [q.1]; rfl)), List.append_nil]
  · rw [List.getElem?_eq_none (by rw [rng_len]; omega)]
    by_cases e : (geti xs j).toNat = i
    · rw [if_pos e, if_neg (by omega)]; rfl
    · rw [if_neg e]; rfl
theorem chsH_same {xs : List Int} {n : Int} {j : Nat} (hc : (onr xs n).contains (j : Int) = true) : chsH xs n (j + 1) = chsH xs n j := by
  unfold chsH
  refine List.map_congr_left fun y _ => ?_
  rw [chs_succ, if_neg (fun q => by rw [hc] at q; cases q.2), List.append_nil]
theorem cnin_iz {x : Int} {xs : List Int} {h : IH} : cNin (.int x) (.tup (iz xs)) h = .ok (.bl (!xs.contains x)) h := by
  unfold cNin inItems items
  dsimp only
  rw [if_pos ⟨rfl, iz_flat xs⟩, memB_iz]
theorem f_children_of {n : Int} {xs : List Int} (P : Pths n xs) (h : IH) (f : FlatH h) : F_children_of [.tup (iz xs)] h = .ok (.ref (h.length + n.toNat)) (h ++ (chsH xs n n.toNat ++ [.lst (refsR h.length n)])) := by
  have hl := P.ch.len
  have lo := P.ch.lo
  have hi10 := P.ch.hi
  suffices q : okR (F_children_of [.tup (iz xs)] h) fun v h1 => v = .ref (h.length + n.toNat) ∧ h1 = (h ++ (chsH xs n n.toNat ++ [.lst (refsR h.length n)])) by
    obtain ⟨_, _, e, rfl, rfl⟩ := q.get
    exact e
  refine F_retE (F := F_children_of) rfl rfl ?_
  show wpS (b_children_of [some (.tup (iz xs)), none, none, none, none] h) _ _
  unfold b_children_of
  refine w_seq (w_asg (okR.of (eC_run (vs := [.tup (iz xs)]) rfl (f_on P h)) ⟨[some (.tup (iz xs)), some (.tup (iz (onr xs n))), none, none, none], _, rfl, ?_⟩))
  have lx : (iz xs).length = n.toNat := by unfold iz; rw [List.length_map]; omega
  have c0 : chsH xs n 0 = List.replicate n.toNat (.lst []) := by
    unfold chsH
    rw [← rng_len n]
    refine List.eq_replicate_iff.mpr ⟨List.length_map .., fun o ho => ?_⟩
    obtain ⟨y, _, rfl⟩ := List.mem_map.mp ho
    rfl
  have mk : eNew (lLc [3] (iTup (eVar 0)) (gNm 3) tYesM (eNew (lLst aNil))) [some (.tup (iz xs)), some (.tup (iz (onr xs n))), none, none, none] h = .ok (.ref (h.length + n.toNat)) (h ++ (chsH xs n 0 ++ [.lst (refsR h.length n)])) := by
    have q : lLc [3] (iTup (eVar 0)) (gNm 3) tYesM (eNew (lLst aNil)) [some (.tup (iz xs)), some (.tup (iz (onr xs n))), none, none, none] h = .ok (refsR h.length n) (h ++ chsH xs n 0) := by
      unfold lLc
      rw [it_tup (xs := iz xs) (h1 := h) rfl]
      dsimp only [R.bind]
      rw [if_pos (by rw [lx]; exact Nat.le_trans (by omega : n.toNat ≤ 10) (by decide)), empties_run, lx, c0]
      rfl
    have z := eNew_run q
    rw [List.append_assoc, List.length_append, show (chsH xs n 0).length = n.toNat by rw [c0, List.length_replicate]] at z
    exact z
  refine w_seq (w_asg (okR.of mk ⟨[some (.tup (iz xs)), some (.tup (iz (onr xs n))), some (.ref (h.length + n.toNat)), none, none], _, rfl, ?_⟩))
  have hlen : ((rng xs.length).map (prs xs)).length = n.toNat := by rw [List.length_map, rng_len]; omega
  refine w_seq (w_for (fun j e g => ∃ a b, e = [some (.tup (iz xs)), some (.tup (iz (onr xs n))), some (.ref (h.length + n.toNat)), a, b] ∧ g = h ++ (chsH xs n j ++ [.lst (refsR h.length n)])) (it_enum rfl) ⟨_, _, rfl, rfl⟩ (fun _ _ _ _ _ => rfl) ?_ ?_)
  · rintro i hi e g ⟨a, b, rfl, rfl⟩
    rw [hlen] at hi
    have gx := P.ch.get (i := (i : Int)) (by omega) (by omega)
    have e1 : ((rng xs.length).map (prs xs))[i] = .tup [.int i, .int (geti xs i)] := by
      rw [List.getElem_map, rng_get]
      rfl
    rw [e1]
    refine ⟨[some (.tup (iz xs)), some (.tup (iz (onr xs n))), some (.ref (h.length + n.toNat)), some (.int i), some (.int (geti xs i))], _, rfl, w_if (okR.of (toB_run' (e2_run' rfl rfl cnin_iz)) ?_)⟩
    cases hc : (onr xs n).contains (i : Int) with
    | true =>
      rw [Bool.not_true, if_neg (by decide)]
      exact w_nil ⟨_, _, rfl, by rw [chsH_same hc]⟩
    | false =>
      rw [Bool.not_false, if_pos rfl]
      have at1 := chsH_get (xs := xs) (n := n) (j := i) (h := h) (t := [.lst (refsR h.length n)]) gx.1 gx.2
      have lc : (chs xs n i (geti xs i)).length ≤ i := Nat.le_trans (List.length_filter_le ..) (by rw [rng_len]; omega)
      refine w_expr (okR.of (eMth_run (e2_run' rfl rfl (refs_ix refs_get gx.1 gx.2)) at1 (aCons_run rfl rfl) (app_run at1 (by unfold iz; rw [List.length_map]; omega))) ⟨_, _, rfl, ?_⟩)
      rw [List.set_append_right _ _ (by omega), Nat.add_sub_cancel_left, List.set_append_left _ _ (by unfold chsH; rw [List.length_map, rng_len]; omega), chsH_set gx.1 hc]
  · rintro e g ⟨a, b, rfl, rfl⟩
    rw [hlen]
    refine w_ret (okR.of (a := .ref (h.length + n.toNat)) (h := h ++ (chsH xs n n.toNat ++ [.lst (refsR h.length n)])) rfl ?_)
    have ff : fin h.length (.ref (h.length + n.toNat)) (h ++ (chsH xs n n.toNat ++ [.lst (refsR h.length n)])) = .ok (.ref (h.length + n.toNat)) (h ++ (chsH xs n n.toNat ++ [.lst (refsR h.length n)])) := by
      have bl : belows h.length (refsR h.length n) = false := by
        obtain ⟨k, hk⟩ : ∃ k, n.toNat = k + 1 := ⟨n.toNat - 1, by omega⟩
        unfold refsR
        rw [hk, List.range_succ_eq_map, List.map_cons]
        simp [belows, below]
      unfold fin
      rw [List.take_left, if_pos (by have := f.take h.length h.length; rw [List.take_length] at this; exact this), if_neg (by simp only [below, decide_eq_true_eq]; omega)]
      dsimp only
      rw [refs_get]
      dsimp only
      rw [if_neg (by rw [bl]; exact fun q => by cases q.2)]
    rw [ff]
    exact .here ⟨rfl, rfl⟩
theorem fin_val2 {v : IV} {h t : IH} (f : FlatH h) (hv : below 0 v = true) : fin h.length v (h ++ t) = .ok v h := by
  unfold fin
  rw [List.take_left, if_pos (by have := f.take h.length h.length; rw [List.take_length] at this; exact this), if_pos (below_le (Nat.zero_le _) v hv)]
theorem f_children {n x : Int} {xs : List Int} (P : Pths n xs) (x0 : 0 ≤ x) (x1 : x < n) (h : IH) (f : FlatH h) : F_children [.tup (iz xs), .int x] h = .ok (.tup (iz (chs xs n n.toNat x))) h := by
  have hl := P.ch.len
  suffices q : okR (F_children [.tup (iz xs), .int x] h) fun v h1 => v = .tup (iz (chs xs n n.toNat x)) ∧ h1 = h by
    obtain ⟨_, _, e, rfl, rfl⟩ := q.get
    exact e
  refine F_retE (F := F_children) rfl rfl ?_
  show wpS (b_children [some (.tup (iz xs)), some (.int x)] h) _ _
  unfold b_children
  refine w_seq (w_expr (okR.of (eC_run (vs := [.tup (iz xs)]) rfl (f_check_chart P.ch h)) (w_seq (w_expr (okR.of (eC_run (vs := [.int n, .int x]) ?_ (f_check_place h x0 x1)) (w_ret (okR.of (a := .tup (iz (chs xs n n.toNat x))) (h := h ++ (chsH xs n n.toNat ++ [.lst (refsR h.length n)])) ?_ ?_)))))))
  · simp only [List.map_cons, List.map_nil, List.cons_append, List.nil_append, List.length_cons, List.length_nil, Nat.zero_add, Nat.sub_self, Nat.reduceAdd, Nat.reduceSub, List.replicate_zero, List.replicate_succ, sRet, sRetN, sSeq, sIf, sExpr, sNil, sAsg, sPar, gNm, eAnd, eOr, eNot, eIf, eC, eCK, eTup, lLst, eNew, aCons, aNil, e1, e2, eVar, eK, eChain, eTuple, eLen, qV, items, toB, tAndM, tOrM, tNotM, bAdd, bSub, uInt, uNeg, cLe, cLt, cGt, cGe, R.bind, RS.of, List.getElem?_cons_zero, List.getElem?_cons_succ, List.set_cons_zero, List.set_cons_succ, gSb, ixN20, ixN21, List.zip_cons_cons, List.zip_nil_left, List.foldl_cons, List.foldl_nil, wpS_nx, wpS_rt, okR_ok, if_true, Bool.not_false, Bool.not_true, and_self, Bool.false_eq_true, if_false, List.length_map, hl]
  · have e1 := e2_run' (o := bIx) (g := eVar 1) (e := [some (.tup (iz xs)), some (.int x)]) (eC_run (f := aCons (eVar 0) aNil) (e := [some (.tup (iz xs)), some (.int x)]) (vs := [.tup (iz xs)]) (h := h) rfl (f_children_of P h f)) rfl (refs_ix (n := n) refs_get x0 x1)
    have at1 := chsH_get (xs := xs) (n := n) (j := n.toNat) (h := h) (t := [.lst (refsR h.length n)]) x0 x1
    unfold eTuple
    rw [qV_ref e1 at1]
    rfl
  · rw [fin_val2 f (below_tup 0 _)]
    exact .here ⟨rfl, rfl⟩
/-! the tree -/
def Over (xs : List Int) (x y : Int) : Prop := ∃ j : Nat, itn xs j y = x ∧ ∀ i, i < j → ¬ OnR xs (itn xs i y)
theorem Over.self {xs : List Int} {x : Int} : Over xs x x := ⟨0, rfl, fun i hi => absurd hi (Nat.not_lt_zero _)⟩
theorem Over.up {xs : List Int} {x y z : Int} (o : Over xs x y) (e : geti xs z = y) (c : ¬ OnR xs z) : Over xs x z := by
  obtain ⟨j, ej, ni⟩ := o
  refine ⟨j + 1, by show itn xs j (geti xs z) = x; rw [e]; exact ej, fun i hi => ?_⟩
  cases i with
  | zero => exact c
  | succ i => show ¬ OnR xs (itn xs i (geti xs z)); rw [e]; exact ni i (by omega)
theorem chs_mem {xs : List Int} {n y z : Int} : z ∈ chs xs n n.toNat y ↔ (0 ≤ z ∧ z < n) ∧ geti xs z = y ∧ ¬ OnR xs z := by
  unfold chs
  rw [List.mem_filter, rng_mem, Bool.and_eq_true, decide_eq_true_eq, Bool.not_eq_true', List.contains_eq_mem, decide_eq_false_iff_not, onr_mem]
  constructor
  · rintro ⟨⟨h1, h2⟩, h3, h4⟩
    exact ⟨⟨h1, by omega⟩, h3, fun o => h4 ⟨⟨h1, by omega⟩, o⟩⟩
  · rintro ⟨⟨h1, h2⟩, h3, h4⟩
    exact ⟨⟨h1, by omega⟩, h3, fun o => h4 o.2⟩
theorem chs_nodup {xs : List Int} {n y : Int} {j : Nat} : (chs xs n j y).Nodup := by
  have := (rng_sorted (j : Int)).filter (p := fun x => decide (geti xs x = y) && !(onr xs n).contains x)
  exact this.imp fun h => by omega
structure Tr (xs : List Int) (n x : Int) (L : List Int) (a : Nat) : Prop where
  al : a ≤ L.length
  eq : L = x :: (L.take a).flatMap (chs xs n n.toNat)
  nd : L.Nodup
  rg : ∀ y ∈ L, 0 ≤ y ∧ y < n
  ov : ∀ y ∈ L, Over xs x y
theorem Tr.init {xs : List Int} {n x : Int} (x0 : 0 ≤ x) (x1 : x < n) : Tr xs n x [x] 0 :=
  ⟨Nat.zero_le _, rfl, by simp, fun y hy => by rw [List.mem_singleton] at hy; rw [hy]; exact ⟨x0, x1⟩, fun y hy => by rw [List.mem_singleton] at hy; rw [hy]; exact .self⟩
theorem Tr.step {xs : List Int} {n x : Int} {L : List Int} {a : Nat} (t : Tr xs n x L a) (h : a < L.length) : Tr xs n x (L ++ chs xs n n.toNat L[a]) (a + 1) := by
  have ma := List.getElem_mem h
  refine ⟨by rw [List.length_append]; omega, ?_, ?_, ?_, ?_⟩
  · rw [List.take_append_of_le_length (by omega), take_s h, List.flatMap_append, ← List.cons_append, ← t.eq]
    simp
  · refine List.nodup_append.mpr ⟨t.nd, chs_nodup, fun z hz w hw e => ?_⟩
    subst e
    obtain ⟨_, gz, nz⟩ := chs_mem.mp hw
    have hz2 := hz
    rw [t.eq] at hz2
    rcases List.mem_cons.mp hz2 with e | hf
    · obtain ⟨j, ej, _⟩ := t.ov _ ma
      exact nz ⟨j + 1, by omega, by show itn xs j (geti xs z) = z; rw [gz, ej, e]⟩
    · obtain ⟨y, hy, hzy⟩ := List.mem_flatMap.mp hf
      obtain ⟨_, gy, _⟩ := chs_mem.mp hzy
      obtain ⟨b, hb, eb⟩ := List.mem_take_iff_getElem.mp hy
      have : b = a := (List.getElem_inj t.nd).mp (by rw [eb, ← gy, gz])
      omega
  · intro y hy
    rcases List.mem_append.mp hy with hy | hy
    · exact t.rg y hy
    · exact (chs_mem.mp hy).1
  · intro y hy
    rcases List.mem_append.mp hy with hy | hy
    · exact t.ov y hy
    · obtain ⟨_, g, nz⟩ := chs_mem.mp hy
      exact (t.ov _ ma).up g nz
theorem Tr.full {xs : List Int} {n x : Int} {L : List Int} (c : Ch n xs) (t : Tr xs n x L L.length) {y : Int} (y0 : 0 ≤ y) (y1 : y < n) (o : Over xs x y) : y ∈ L := by
  obtain ⟨j, ej, ni⟩ := o
  induction j generalizing y with
  | zero => rw [t.eq, show y = x from ej]; exact List.mem_cons_self ..
  | succ j ih =>
    have g := c.get y0 y1
    have m := ih g.1 g.2 ej fun i hi => ni (i + 1) (by omega)
    rw [t.eq, List.take_length]
    exact List.mem_cons_of_mem _ (List.mem_flatMap.mpr ⟨_, m, chs_mem.mpr ⟨⟨y0, y1⟩, rfl, ni 0 (by omega)⟩⟩)
open Classical in
noncomputable def tre (xs : List Int) (n x : Int) : List Int := (rng n).filter fun y => decide (Over xs x y)
theorem Tr.sorted {xs : List Int} {n x : Int} {L : List Int} (c : Ch n xs) (t : Tr xs n x L L.length) : sortI L = tre xs n x := by
  classical
  have s2 : (tre xs n x).Pairwise (· < ·) := (rng_sorted n).filter _
  have nd2 : (tre xs n x).Nodup := s2.imp fun h => by omega
  refine sorted_eq (sortI_sorted L) (s2.imp fun h => Int.le_of_lt h) ((sortI_perm L).trans ((List.perm_ext_iff_of_nodup t.nd nd2).mpr fun y => ?_))
  unfold tre
  rw [List.mem_filter, rng_mem, decide_eq_true_eq]
  exact ⟨fun h => ⟨t.rg y h, t.ov y h⟩, fun h => t.full c h.1.1 h.1.2 h.2⟩
theorem Tr.len {xs : List Int} {n x : Int} {L : List Int} {a : Nat} (t : Tr xs n x L a) : L.length ≤ n.toNat := by
  classical
  have p : L.Perm ((rng n).filter fun y => decide (y ∈ L)) := (List.perm_ext_iff_of_nodup t.nd (((rng_sorted n).filter _).imp fun h => by omega)).mpr fun y => by
    rw [List.mem_filter, rng_mem, decide_eq_true_eq]
    exact ⟨fun h => ⟨t.rg y h, h⟩, fun h => h.2⟩
  rw [p.length_eq]
  exact Nat.le_trans (List.length_filter_le ..) (by rw [rng_len]; exact Nat.le_refl _)
theorem f_tree_of {n x : Int} {xs : List Int} (P : Pths n xs) (x0 : 0 ≤ x) (x1 : x < n) (h : IH) (f : FlatH h) : F_tree_of [.tup (iz xs), .int x] h = .ok (.tup (iz (tre xs n x))) h := by
  have hi10 := P.ch.hi
  suffices q : okR (F_tree_of [.tup (iz xs), .int x] h) fun v h1 => v = .tup (iz (tre xs n x)) ∧ h1 = h by
    obtain ⟨_, _, e, rfl, rfl⟩ := q.get
    exact e
  refine F_retE (F := F_tree_of) rfl rfl ?_
  show wpS (b_tree_of [some (.tup (iz xs)), some (.int x), none, none, none] h) _ _
  unfold b_tree_of
  refine w_seq (w_asg (okR.of (eC_run (vs := [.tup (iz xs)]) rfl (f_children_of P h f)) ⟨[some (.tup (iz xs)), some (.int x), some (.ref (h.length + n.toNat)), none, none], _, rfl, ?_⟩))
  have kl : (h ++ (chsH xs n n.toNat ++ [IO.lst (refsR h.length n)])).length = h.length + n.toNat + 1 := by
    unfold chsH
    rw [List.length_append, List.length_append, List.length_map, rng_len]
    rfl
  have gC : ∀ (y : Int) (o : IO), 0 ≤ y → y < n → ((h ++ (chsH xs n n.toNat ++ [IO.lst (refsR h.length n)])) ++ [o])[h.length + y.toNat]? = some (.lst (iz (chs xs n n.toNat y))) := fun y o y0 y1 => by
    rw [List.getElem?_append_left (by rw [kl]; omega)]
    exact chsH_get y0 y1
  have gR : ∀ (o : IO), ((h ++ (chsH xs n n.toNat ++ [IO.lst (refsR h.length n)])) ++ [o])[h.length + n.toNat]? = some (.lst (refsR h.length n)) := fun o => by
    rw [List.getElem?_append_left (by rw [kl]; omega)]
    exact refs_get
  have tk : ∀ (o : IO), (h ++ (chsH xs n n.toNat ++ [IO.lst (refsR h.length n)])) ++ [o] = h ++ ((chsH xs n n.toNat ++ [IO.lst (refsR h.length n)]) ++ [o]) := fun o => List.append_assoc ..
  generalize h ++ (chsH xs n n.toNat ++ [IO.lst (refsR h.length n)]) = H at kl gC gR tk ⊢
  refine w_seq (w_asg (okR.of (eNew_run (lst_run (aCons_run rfl rfl) (Nat.le_trans (Nat.le_refl 1) (by decide)))) ⟨[some (.tup (iz xs)), some (.int x), some (.ref (h.length + n.toNat)), some (.ref H.length), none], _, rfl, ?_⟩))
  refine w_seq (w_asg (okR.of (a := .int 0) rfl ⟨[some (.tup (iz xs)), some (.int x), some (.ref (h.length + n.toNat)), some (.ref H.length), some (.int 0)], _, rfl, ?_⟩))
  refine w_seq (w_while (fun m e g => ∃ (L : List Int) (a : Nat), e = [some (.tup (iz xs)), some (.int x), some (.ref (h.length + n.toNat)), some (.ref H.length), some (.int a)] ∧ g = H ++ [.lst (iz L)] ∧ Tr xs n x L a ∧ m + a = n.toNat) n.toNat (by show _ < 100000; omega) ⟨[x], 0, rfl, rfl, .init x0 x1, rfl⟩ ?_)
  rintro m e g ⟨L, a, rfl, rfl, t, ma⟩
  have al := at_last H (.lst (iz L))
  have ll := t.len
  have lc : toB (MM.e2 cLt (eVar 4) (eLen (qV (eVar 3)))) [some (.tup (iz xs)), some (.int x), some (.ref (h.length + n.toNat)), some (.ref H.length), some (.int a)] (H ++ [.lst (iz L)]) = .ok (decide ((a : Int) < ((iz L).length : Nat))) (H ++ [.lst (iz L)]) := by
    refine toB_run' (e2_run' (y := .int ((iz L).length : Nat)) rfl ?_ rfl)
    unfold eLen
    rw [qV_ref rfl al]
    rfl
  refine okR.of lc ?_
  have il : (iz L).length = L.length := by unfold iz; rw [List.length_map]
  rw [il]
  by_cases hc : a < L.length
  · rw [decide_eq_true (by omega), if_pos rfl]
    have r := t.rg _ (List.getElem_mem hc)
    have t2 := t.step hc
    have ix := ix_ref (i := (a : Int)) al (by omega) (by omega)
    rw [geti_get hc] at ix
    have be : bExt (.ref H.length) (.ref (h.length + (L[a]).toNat)) (H ++ [.lst (iz L)]) = .ok (.ref H.length) (H ++ [.lst (iz (L ++ chs xs n n.toNat L[a]))]) := by
      have l2 := t2.len
      rw [List.length_append] at l2
      have z : (iz L).length + (iz (chs xs n n.toNat L[a])).length ≤ sizeLine := by
        unfold iz
        rw [List.length_map, List.length_map]
        exact Nat.le_trans (by omega : _ ≤ 10) (by decide)
      unfold bExt
      dsimp only
      rw [al, gC _ _ r.1 r.2]
      dsimp only
      rw [if_pos z, set_last]
      unfold iz
      rw [List.map_append]
    refine ⟨by omega, w_seq (w_aug rfl (e2_run' rfl (e2_run' rfl rfl ix) (refs_ix (gR _) r.1 r.2)) be ?_)⟩
    exact w_aug (x := .int a) (y := .int 1) (z := .int ((a + 1 : Nat) : Int)) rfl rfl rfl ⟨m - 1, by omega, _, a + 1, rfl, rfl, t2, by omega⟩
  · rw [decide_eq_false (by omega), if_neg (by decide)]
    have ae : a = L.length := by have := t.al; omega
    subst ae
    refine w_ret (okR.of (a := .tup (iz (tre xs n x))) (h := H ++ [.lst (iz L)]) ?_ ?_)
    · refine tuple_run ?_
      unfold lInts
      rw [qV_ref rfl al]
      dsimp only [R.bind]
      rw [intsOf_ints]
      dsimp only
      rw [t.sorted P.ch]
    · rw [tk, fin_val2 f (below_tup 0 _)]
      exact .here ⟨rfl, rfl⟩
theorem f_tree_over {n x : Int} {xs : List Int} (P : Pths n xs) (x0 : 0 ≤ x) (x1 : x < n) (h : IH) (f : FlatH h) : F_tree_over [.tup (iz xs), .int x] h = .ok (.tup (iz (tre xs n x))) h := by
  have hl := P.ch.len
  refine F_sameE (F := F_tree_over) rfl rfl ?_
  show wpS (b_tree_over [some (.tup (iz xs)), some (.int x)] h) _ _
  unfold b_tree_over
  refine w_seq (w_expr (okR.of (eC_run (vs := [.tup (iz xs)]) rfl (f_check_chart P.ch h)) (w_seq (w_expr (okR.of (eC_run (vs := [.int n, .int x]) ?_ (f_check_place h x0 x1)) (w_ret (okR.of (eC_run (vs := [.tup (iz xs), .int x]) rfl (f_tree_of P x0 x1 h f)) ⟨rfl, rfl⟩)))))))
  simp only [List.map_cons, List.map_nil, List.cons_append, List.nil_append, List.length_cons, List.length_nil, Nat.zero_add, Nat.sub_self, Nat.reduceAdd, Nat.reduceSub, List.replicate_zero, List.replicate_succ, sRet, sRetN, sSeq, sIf, sExpr, sNil, sAsg, sPar, gNm, eAnd, eOr, eNot, eIf, eC, eCK, eTup, lLst, eNew, aCons, aNil, e1, e2, eVar, eK, eChain, eTuple, eLen, qV, items, toB, tAndM, tOrM, tNotM, bAdd, bSub, uInt, uNeg, cLe, cLt, cGt, cGe, R.bind, RS.of, List.getElem?_cons_zero, List.getElem?_cons_succ, List.set_cons_zero, List.set_cons_succ, gSb, ixN20, ixN21, List.zip_cons_cons, List.zip_nil_left, List.foldl_cons, List.foldl_nil, wpS_nx, wpS_rt, okR_ok, if_true, Bool.not_false, Bool.not_true, and_self, Bool.false_eq_true, if_false, List.length_map, hl]
theorem over_at {n x y : Int} {xs L : List Int} (a : IsPath xs y L) (o : Over xs x y) : ∃ j, ∃ h : j < L.length, L[j] = x ∧ ∀ i, i < j → ¬ OnR xs (itn xs i y) := by
  obtain ⟨j, ej, ni⟩ := o
  have hj : j < L.length := by
    rcases Nat.lt_or_ge j L.length with h | h
    · exact h
    · obtain ⟨k, hk, e⟩ := List.getElem_of_mem a.cl
      rw [a.get k hk] at e
      refine absurd ⟨L.length - k, by omega, ?_⟩ (ni k (by omega))
      rw [← itn_add, show k + (L.length - k) = L.length by omega, e]
  exact ⟨j, hj, by rw [a.get j hj, ej], ni⟩
theorem over_iff {n x y : Int} {xs L : List Int} (a : IsPath xs y L) (rg : ∀ z ∈ L, 0 ≤ z ∧ z < n) : Over xs x y ↔ ∃ j, ∃ h : j < L.length, L[j] = x ∧ (L.take j).filter (fun z => (onr xs n).contains z) = [] := by
  constructor
  · intro o
    obtain ⟨j, hj, e, ni⟩ := over_at (n := n) a o
    refine ⟨j, hj, e, List.filter_eq_nil_iff.mpr fun z hz hc => ?_⟩
    obtain ⟨i, hi, ez⟩ := List.mem_take_iff_getElem.mp hz
    rw [List.contains_eq_mem, decide_eq_true_eq, onr_mem] at hc
    refine ni i (by omega) ?_
    rw [← a.get i (by omega), ez]
    exact hc.2
  · rintro ⟨j, hj, e, nf⟩
    refine ⟨j, by rw [← a.get j hj, e], fun i hi oi => ?_⟩
    have hz : L[i]'(by omega) ∈ L.take j := List.mem_take_iff_getElem.mpr ⟨i, by omega, rfl⟩
    refine List.filter_eq_nil_iff.mp nf _ hz ?_
    rw [List.contains_eq_mem, decide_eq_true_eq, onr_mem]
    exact ⟨rg _ (List.mem_of_mem_take hz), by rw [a.get i (by omega)]; exact oi⟩
theorem cin_lst {h : IH} {k : Nat} {L : List Int} {v : Int} (hk : h[k]? = some (.lst (iz L))) : cIn (.int v) (.ref k) h = .ok (.bl (L.contains v)) h := by
  unfold cIn inItems items
  dsimp only
  rw [hk]
  dsimp only
  rw [if_pos ⟨rfl, iz_flat L⟩, memB_iz]
open Classical in
theorem over_run {n x y : Int} {xs L : List Int} {g : IH} {k kt : Nat} {a2 a4 a5 a8 : Option IV} (a : IsPath xs y L) (rg : ∀ z ∈ L, 0 ≤ z ∧ z < n) (hn : n ≤ 10) (f : FlatH g) (hk : g[k]? = some (.lst (iz L))) (ht : g[kt]? = some (.lst (iz (onr xs n)))) :
    tAndM (toB (MM.e2 cIn (eVar 3) (eVar 7))) (gcT (toB (MM.e2 cEq (eNew (lLc [8] (iFresh (lCut (eVar 7) (oN) (oS (eMth mIndex (eVar 7) (aCons (eVar 3) (aNil)))))) (gNm 8) (toB (MM.e2 cIn (eVar 8) (eVar 1))) (eVar 8))) (eNew (lLst (aNil)))))) [some (.tup (iz xs)), some (.ref kt), a2, some (.int x), a4, a5, some (.int y), some (.ref k), a8] g = .ok (decide (Over xs x y)) g := by
  have ll := nodup_len a.nd rg
  unfold tAndM
  rw [toB_run' (e2_run' rfl rfl (cin_lst hk))]
  dsimp only [R.bind]
  by_cases m : x ∈ L
  · obtain ⟨j, hj, q1, q2⟩ := idx_iz m
    rw [if_pos (List.contains_iff_mem.mpr m)]
    have mi : eMth mIndex (eVar 7) (aCons (eVar 3) (aNil)) [some (.tup (iz xs)), some (.ref kt), a2, some (.int x), a4, a5, some (.int y), some (.ref k), a8] g = .ok (.int j) g := by
      refine eMth_run rfl hk (aCons_run rfl rfl) ?_
      unfold mIndex
      dsimp only
      rw [hk]
      dsimp only
      rw [if_pos ⟨rfl, iz_flat L⟩, q1]
    have ct := lcut_run (f := eVar 7) (lo := oN) (hi := oS (eMth mIndex (eVar 7) (aCons (eVar 3) (aNil)))) (e := [some (.tup (iz xs)), some (.ref kt), a2, some (.int x), a4, a5, some (.int y), some (.ref k), a8]) (l := none) (u := some (j : Int)) rfl hk rfl (by unfold oS; rw [mi]; rfl)
    have cj : cut L none (some (j : Int)) = L.take j := cut_lo (by omega) (by omega)
    rw [cj] at ct
    have inn := lLc_pure2 (own := [8]) (it := iFresh (lCut (eVar 7) (oN) (oS (eMth mIndex (eVar 7) (aCons (eVar 3) (aNil)))))) (g := gNm 8) (c := toB (MM.e2 cIn (eVar 8) (eVar 1))) (f := eVar 8) (e := [some (.tup (iz xs)), some (.ref kt), a2, some (.int x), a4, a5, some (.int y), some (.ref k), a8]) (h := g) (h1 := g) (mk := IV.int) (mv := IV.int) (v := id) (p := fun z => (onr xs n).contains z) (xs := L.take j) (G := fun _ => true) (by unfold iFresh; rw [ct]; rfl) rfl (Nat.le_trans (List.length_take_le ..) (by omega)) (fun z hz => ⟨_, rfl, toB_run' (e2_run' rfl rfl (cin_lst ht)), fun _ => rfl⟩)
    rw [List.map_id] at inn
    rw [eq_nil_iz inn f (Nat.le_trans (List.length_filter_le ..) (Nat.le_trans (List.length_take_le ..) (by omega))) (fun z hz => by have := rg z (List.mem_of_mem_take (List.mem_filter.mp hz).1); omega)]
    congr 1
    rw [Bool.eq_iff_iff, decide_eq_true_eq, over_iff a rg, List.isEmpty_iff]
    constructor
    · exact fun e => ⟨j, hj, q2, e⟩
    · rintro ⟨i, hi, ei, e⟩
      have : i = j := (List.getElem_inj a.nd).mp (by rw [ei, q2])
      rw [← this]; exact e
  · rw [if_neg (fun q => m (List.contains_iff_mem.mp q))]
    have : ¬ Over xs x y := fun o => by
      obtain ⟨j, hj, e, _⟩ := (over_iff a rg).mp o
      exact m (by rw [← e]; exact List.getElem_mem hj)
    rw [decide_eq_false this]
theorem var_run {i : Nat} {E : IEnv} {g : IH} {v : IV} (h : E[i]? = some (some v)) : eVar i E g = .ok v g := by
  unfold eVar
  rw [h]
theorem chk2 {F : FM} {ia ib n w : Nat} {E : IEnv} {g : IH} {a b v : IV} {D : PyData} {f : EM} (hF : F [a, b] g = .ok v g) (ea : E[ia]? = some (some a)) (eb : E[ib]? = some (some b)) (hf : f E g = .ok v g) (d : toD g 66 v = some D) (r : Rp n w D) (q1 : n + 1 ≤ 64) (q2 : 2 * (w + 1) ≤ 2 ^ 20) :
    toB (MM.e2 cNe (gcE (eReprL (lLst (aCons (eC F (aCons (eVar ia) (aCons (eVar ib) (aNil)))) (aCons (eCK F [1, 0] aNil (aCons (eVar ib) (aCons (eVar ia) (aNil)))) (aNil)))))) (gcE (eReprL (lLst (aCons f (aCons f (aNil))))))) E g = .ok false g := by
  have x1 := lst_run (aCons_run (f := eC F (aCons (eVar ia) (aCons (eVar ib) (aNil)))) (g := aCons (eCK F [1, 0] aNil (aCons (eVar ib) (aCons (eVar ia) (aNil)))) aNil) (e := E) (h := g) (eC_run (vs := [a, b]) (aCons_run (var_run ea) (aCons_run (var_run eb) rfl)) hF) (aCons_run (eCK_run (us := [b, a]) (vs := [a, b]) (aCons_run (var_run eb) (aCons_run (var_run ea) rfl)) rfl hF) rfl)) (by show 2 ≤ 2 ^ 20; decide)
  have x2 := lst_run (aCons_run hf (aCons_run (g := aNil) hf rfl)) (by show 2 ≤ 2 ^ 20; decide)
  exact toB_run' (e2_run' (reprL_run x1 (optD2 d d) (rp_twoL r r) q1 q2) (reprL_run x2 (optD2 d d) (rp_twoL r r) q1 q2) (same_str _))
open Classical in
theorem f_places {n : Int} {xs : List Int} {kt : Nat} (P : Pths n xs) (h : IH) (f : FlatH h) (hk : h[kt]? = some (.lst (iz (onr xs n)))) : F__law_places_right [.tup (iz xs), .ref kt, .tup (iz (deps xs n))] h = .ok (.bl true) h := by
  have lx := P.ch.len
  have lo := P.ch.lo
  have hi10 := P.ch.hi
  have hkl : kt < h.length := (List.getElem?_eq_some_iff.mp hk).1
  suffices q : okR (F__law_places_right [.tup (iz xs), .ref kt, .tup (iz (deps xs n))] h) fun v h1 => v = .bl true ∧ h1 = h by
    obtain ⟨_, _, e, rfl, rfl⟩ := q.get
    exact e
  refine F_retE (F := F__law_places_right) rfl rfl ?_
  show wpS (b__law_places_right [some (.tup (iz xs)), some (.ref kt), some (.tup (iz (deps xs n))), none, none, none, none, none, none] h) _ _
  unfold b__law_places_right
  have ln : ∀ (E : IEnv) (g : IH), E[0]? = some (some (.tup (iz xs))) → eLen (qV (eVar 0)) E g = .ok (.int n) g := fun E g q => by
    have v := var_run (g := g) q
    simp only [List.map_cons, List.map_nil, List.cons_append, List.nil_append, List.length_cons, List.length_nil, Nat.zero_add, Nat.sub_self, Nat.reduceAdd, Nat.reduceSub, List.replicate_zero, List.replicate_succ, sRet, sRetN, sSeq, sIf, sExpr, sNil, sAsg, sPar, gNm, eAnd, eOr, eNot, eIf, eC, eCK, eTup, lLst, eNew, aCons, aNil, e1, e2, eVar, eK, eChain, eTuple, eLen, qV, items, toB, tAndM, tOrM, tNotM, bAdd, bSub, uInt, uNeg, cLe, cLt, cGt, cGe, R.bind, RS.of, List.getElem?_cons_zero, List.getElem?_cons_succ, List.set_cons_zero, List.set_cons_succ, gSb, ixN20, ixN21, List.zip_cons_cons, List.zip_nil_left, List.foldl_cons, List.foldl_nil, wpS_nx, wpS_rt, okR_ok, if_true, Bool.not_false, Bool.not_true, and_self, Bool.false_eq_true, if_false, q, List.length_map, lx]
  refine w_seq (w_for (fun _ e g => ∃ t a3 a4 a5 a6 a7 a8, e = [some (.tup (iz xs)), some (.ref kt), some (.tup (iz (deps xs n))), a3, a4, a5, a6, a7, a8] ∧ g = h ++ t ∧ FlatH g) (it_rg1 (ln _ _ rfl) (by omega) (by omega)) ⟨[], _, _, _, _, _, _, rfl, (List.append_nil h).symm, f⟩ (fun _ _ _ _ _ => rfl) ?_ ?_)
  rotate_left
  · rintro e g ⟨t, _, _, _, _, _, _, -, rfl, fg⟩
    refine w_ret (okR.of (a := .bl true) (h := h ++ t) rfl ?_)
    rw [fin_val fg rfl, List.take_left]
    exact .here ⟨rfl, rfl⟩
  rintro i hi e g ⟨t, a3, a4, a5, a6, a7, a8, rfl, hg, fg⟩
  obtain ⟨x, x0, x1, ex⟩ : ∃ x : Int, 0 ≤ x ∧ x < n ∧ (iz (rng n))[i] = .int x := by
    have hi' : i < (rng n).length := by rw [List.length_map] at hi; exact hi
    have hm := rng_mem.mp (List.getElem_mem hi')
    exact ⟨(rng n)[i], hm.1, hm.2, List.getElem_map ..⟩
  rw [ex]
  have gk : g[kt]? = some (.lst (iz (onr xs n))) := by rw [hg, List.getElem?_append_left hkl]; exact hk
  refine ⟨[some (.tup (iz xs)), some (.ref kt), some (.tup (iz (deps xs n))), some (.int x), a4, a5, a6, a7, a8], g, rfl, ?_⟩
  -- the children
  have low : lLc [6] (iRg1 (eLen (qV (eVar 0)))) (gNm 6) (tAndM (toB (MM.e2 cEq (MM.e2 bIx (eVar 0) (eVar 6)) (eVar 3))) (toB (MM.e2 cNin (eVar 6) (eVar 1)))) (eVar 6) [some (.tup (iz xs)), some (.ref kt), some (.tup (iz (deps xs n))), some (.int x), a4, a5, a6, a7, a8] g = .ok (iz (chs xs n n.toNat x)) g := by
    have lc := lLc_pure (own := [6]) (it := iRg1 (eLen (qV (eVar 0)))) (g := gNm 6) (c := tAndM (toB (MM.e2 cEq (MM.e2 bIx (eVar 0) (eVar 6)) (eVar 3))) (toB (MM.e2 cNin (eVar 6) (eVar 1)))) (f := eVar 6) (e := [some (.tup (iz xs)), some (.ref kt), some (.tup (iz (deps xs n))), some (.int x), a4, a5, a6, a7, a8]) (h := g) (mk := IV.int) (mv := IV.int) (v := id) (p := fun z => decide (geti xs z = x) && !(onr xs n).contains z) (it_rg1 (n := n) (ln _ _ rfl) (by omega) (by omega)) rfl (by rw [rng_len]; omega) (fun z hz => by
      have hm := rng_mem.mp hz
      refine ⟨[some (.tup (iz xs)), some (.ref kt), some (.tup (iz (deps xs n))), some (.int x), a4, a5, some (.int z), a7, a8], rfl, ?_, fun _ => rfl⟩
      unfold tAndM
      rw [toB_run' (e2_run' (e2_run' rfl rfl (ix_tup hm.1 (by omega))) rfl ceq_i)]
      dsimp only [R.bind]
      cases hd : decide (geti xs z = x) with
      | true => rw [if_pos rfl, toB_run' (e2_run' rfl rfl (cnin_ref gk)), Bool.true_and]
      | false => rw [if_neg (by decide), Bool.false_and])
    rw [List.map_id] at lc
    rw [lc]
    unfold chs
    rw [Int.toNat_of_nonneg (by omega)]
  refine w_seq (w_asg (okR.of (tuple_run low) ⟨[some (.tup (iz xs)), some (.ref kt), some (.tup (iz (deps xs n))), some (.int x), some (.tup (iz (chs xs n n.toNat x))), a5, a6, a7, a8], g, rfl, ?_⟩))
  refine w_seq (w_asg (okR.of (eNew_run (lst_run (h1 := g) (xs := []) rfl (Nat.zero_le _))) ⟨[some (.tup (iz xs)), some (.ref kt), some (.tup (iz (deps xs n))), some (.int x), some (.tup (iz (chs xs n n.toNat x))), some (.ref g.length), a6, a7, a8], _, rfl, ?_⟩))
  -- the tree
  have gkl : kt < g.length := (List.getElem?_eq_some_iff.mp gk).1
  refine w_seq (w_for (fun j e g1 => ∃ u a6 a7 a8, e = [some (.tup (iz xs)), some (.ref kt), some (.tup (iz (deps xs n))), some (.int x), some (.tup (iz (chs xs n n.toNat x))), some (.ref g.length), a6, a7, a8] ∧ g1 = g ++ (.lst (iz (((rng n).take j).filter fun y => decide (Over xs x y))) :: u) ∧ FlatH g1) (it_rg1 (ln _ _ rfl) (by omega) (by omega)) ⟨[], _, _, _, rfl, rfl, fg.app rfl⟩ (fun _ _ _ _ _ => rfl) ?_ ?_)
  · rintro j hj e g1 ⟨u, b6, b7, b8, rfl, hg1, fg1⟩
    have hj' : j < (rng n).length := by rw [List.length_map] at hj; exact hj
    have hm := rng_mem.mp (List.getElem_mem hj')
    rw [show (iz (rng n))[j] = .int (rng n)[j] from List.getElem_map .., take_s hj', List.filter_append]
    have tl : (((rng n).take j).filter fun y => decide (Over xs x y)).length ≤ 10 := Nat.le_trans (List.length_filter_le ..) (Nat.le_trans (List.length_take_le' ..) (by rw [rng_len]; omega))
    generalize ((rng n).take j).filter (fun y => decide (Over xs x y)) = A at tl hg1
    generalize (rng n)[j] = y at hm
    refine ⟨[some (.tup (iz xs)), some (.ref kt), some (.tup (iz (deps xs n))), some (.int x), some (.tup (iz (chs xs n n.toNat x))), some (.ref g.length), some (.int y), b7, b8], g1, rfl, ?_⟩
    obtain ⟨v, g2, e2', L, a, ha, rfl, hg2, hp, hmm, et⟩ := (f_lway P.ch hm.1 hm.2 g1).get
    have alL : g2[g1.length]? = some (.lst (iz L)) := by rw [hg2]; exact at_last g1 _
    have fg2 : FlatH g2 := by rw [hg2]; exact fg1.app (ints_below 0 _)
    have hg3 : g2 = g ++ (.lst (iz A) :: (u ++ [.lst (iz L)])) := by rw [hg2, hg1, List.append_assoc]; rfl
    have k2 : g2[kt]? = some (.lst (iz (onr xs n))) := by rw [hg3, List.getElem?_append_left gkl]; exact gk
    have kA : g2[g.length]? = some (.lst (iz A)) := by rw [hg3, List.getElem?_append_right (Nat.le_refl _), Nat.sub_self]; rfl
    refine w_seq (w_asg (okR.of (a := .ref g1.length) (h := g2) (e2_run' (eC_run (vs := [.tup (iz xs), .int y]) rfl e2') rfl rfl) ⟨[some (.tup (iz xs)), some (.ref kt), some (.tup (iz (deps xs n))), some (.int x), some (.tup (iz (chs xs n n.toNat x))), some (.ref g.length), some (.int y), some (.ref g1.length), b8], g2, rfl, ?_⟩))
    refine w_if (okR.of (over_run hp hmm hi10 fg2 alL k2) ?_)
    by_cases o : Over xs x y
    · rw [decide_eq_true o, if_pos rfl]
      refine w_expr (okR.of (eMth_run (k := g.length) rfl kA (aCons_run rfl rfl) (app_run kA (by unfold iz; rw [List.length_map]; omega))) ⟨u ++ [.lst (iz L)], _, _, _, rfl, ?_, ?_⟩)
      · rw [hg3, List.set_append_right _ _ (Nat.le_refl _), Nat.sub_self, List.filter_cons, if_pos (decide_eq_true o), List.filter_nil]
        unfold iz
        rw [List.map_append]
        rfl
      · exact fg2.set (belows_app (ints_below 0 _) rfl)
    · rw [decide_eq_false o, if_neg (by decide)]
      refine w_nil ⟨u ++ [.lst (iz L)], _, _, _, rfl, ?_, fg2⟩
      rw [hg3, List.filter_cons, if_neg (by rw [decide_eq_false o]; decide), List.filter_nil, List.append_nil]
  · rintro e g1 ⟨u, b6, b7, b8, rfl, hg1, fg1⟩
    have tk : ((rng n).take (iz (rng n)).length).filter (fun y => decide (Over xs x y)) = tre xs n x := by
      rw [show (iz (rng n)).length = (rng n).length from List.length_map .., List.take_length]
      rfl
    rw [tk] at hg1
    have kA : g1[g.length]? = some (.lst (iz (tre xs n x))) := by rw [hg1, List.getElem?_append_right (Nat.le_refl _), Nat.sub_self]; rfl
    refine w_seq (w_asg (okR.of (tuple_run (qV_ref (f := eVar 5) rfl kA)) ⟨[some (.tup (iz xs)), some (.ref kt), some (.tup (iz (deps xs n))), some (.int x), some (.tup (iz (chs xs n n.toNat x))), some (.tup (iz (tre xs n x))), b6, b7, b8], g1, rfl, ?_⟩))
    have ix := ix_tup (xs := deps xs n) (i := x) (h := g1) x0 (by rw [(deps_ok P).1]; exact x1)
    rw [deps_get x0 x1] at ix
    have dl : dep xs n x ≤ 10 := dep_le P x0 x1
    have rpI : Rp 0 41 (.int (dep xs n x : Nat)) := Rp.int (by omega)
    have rpT : ∀ L : List Int, L.length ≤ 10 → (∀ z ∈ L, 0 ≤ z ∧ z < n) → Rp 2 (10 * (10 * 42 + 1)) (dtup L) := fun L q1 q2 => (rp_tup (L := 10) (small_of hi10 q2) q1).mono (by decide) (by decide)
    have cl : (chs xs n n.toNat x).length ≤ 10 := Nat.le_trans (List.length_filter_le ..) (by rw [rng_len]; omega)
    have tl : (tre xs n x).length ≤ 10 := Nat.le_trans (List.length_filter_le ..) (by rw [rng_len]; omega)
    refine w_seq (w_chk (chk2 (a := .tup (iz xs)) (b := .int x) (f_depth P x0 x1 g1 fg1) rfl rfl (e2_run' rfl rfl ix) rfl rpI (by decide) (by decide)) ?_)
    refine w_seq (w_chk (chk2 (a := .tup (iz xs)) (b := .int x) (f_children P x0 x1 g1 fg1) rfl rfl rfl (toD_tup _ 64 _) (rpT _ cl fun z hz => (chs_mem.mp hz).1) (by decide) (by decide)) ?_)
    refine w_chk (chk2 (a := .tup (iz xs)) (b := .int x) (f_tree_over P x0 x1 g1 fg1) rfl rfl rfl (toD_tup _ 64 _) (rpT _ tl fun z hz => rng_mem.mp (List.mem_filter.mp hz).1) (by decide) (by decide)) ?_
    exact ⟨t ++ (.lst (iz (tre xs n x)) :: u), _, _, _, _, _, _, rfl, by rw [hg1, hg, List.append_assoc], fg1⟩
theorem chk1 {F : FM} {ia n w : Nat} {E : IEnv} {g : IH} {a v : IV} {D : PyData} {f : EM} (hF : F [a] g = .ok v g) (ea : E[ia]? = some (some a)) (hf : f E g = .ok v g) (d : toD g 66 v = some D) (r : Rp n w D) (q1 : n + 1 ≤ 64) (q2 : 2 * (w + 1) ≤ 2 ^ 20) :
    toB (MM.e2 cNe (gcE (eReprL (lLst (aCons (eC F (aCons (eVar ia) (aNil))) (aCons (eCK F [0] aNil (aCons (eVar ia) (aNil))) (aNil)))))) (gcE (eReprL (lLst (aCons f (aCons f (aNil))))))) E g = .ok false g := by
  have x1 := lst_run (aCons_run (f := eC F (aCons (eVar ia) (aNil))) (g := aCons (eCK F [0] aNil (aCons (eVar ia) (aNil))) aNil) (e := E) (h := g) (eC_run (vs := [a]) (aCons_run (var_run ea) rfl) hF) (aCons_run (eCK_run (us := [a]) (vs := [a]) (aCons_run (var_run ea) rfl) rfl hF) rfl)) (by show 2 ≤ 2 ^ 20; decide)
  have x2 := lst_run (aCons_run hf (aCons_run (g := aNil) hf rfl)) (by show 2 ≤ 2 ^ 20; decide)
  exact toB_run' (e2_run' (reprL_run x1 (optD2 d d) (rp_twoL r r) q1 q2) (reprL_run x2 (optD2 d d) (rp_twoL r r) q1 q2) (same_str _))
theorem rp_intB {i : Int} (h : i.natAbs < 10 ^ 12) : Rp 0 41 (.int i) := Rp.int h
theorem rp_small {i : Int} (h1 : 0 ≤ i) (h2 : i < 2 ^ 1001) : SeqAt.shaped (.list [.int i, .int i]) = true := by
  unfold SeqAt.shaped
  simp [PyData.canLay0, PyData.canLayAll0, PyData.depth, PyData.depthAll]
theorem rpr_big {i : Int} {h : IH} {d : PyData} (hd : (d = .int i ∧ i.natAbs < 2 ^ 1900) ∨ d = .none) : MM.rpr (.list [d, d]) h = .ok (.str (PyData.list [d, d]).shown) h := by
  have sh : SeqAt.shaped (.list [d, d]) = true := by
    rcases hd with ⟨rfl, _⟩ | rfl <;> rfl
  have lg : i.natAbs < 2 ^ 1900 → i.natAbs.log2 < 1920 := fun q => by
    by_cases h0 : i.natAbs = 0
    · rw [h0]; decide
    · exact Nat.lt_of_lt_of_le ((Nat.log2_lt h0).mpr q) (by decide)
  have sw : (PyData.list [d, d]).showable = true := by
    rcases hd with ⟨rfl, q⟩ | rfl
    · simp only [PyData.showable, PyData.showableAll, decide_eq_true (lg q), Bool.and_self]
    · rfl
  have ls : (PyData.list [d, d]).leavesShort 1921 = true := by
    refine PyData.leavesShort_of_canLay0 1921 _ ?_ ?_
    · rcases hd with ⟨rfl, _⟩ | rfl <;> rfl
    · rcases hd with ⟨rfl, q⟩ | rfl
      · have z : (PyData.shown (.int i)).length ≤ 1921 := PyProof.Rows.int_text_len_1921 (lg q)
        simp only [PyData.intsShort, PyData.intsShortAll, decide_eq_true z, Bool.and_self]
      · rfl
  have wt : (PyData.list [d, d]).weight ≤ 2 * (1921 + 1) := by
    rcases hd with ⟨rfl, q⟩ | rfl
    · have := lg q
      have w : (PyData.int i).weight ≤ 1921 := by
        simp only [PyData.weight]
        split <;> omega
      have z := weightAll_le (B := 1921) (ds := [.int i, .int i]) fun x hx => by
        rcases List.mem_cons.mp hx with rfl | hx
        · exact w
        · rcases List.mem_cons.mp hx with rfl | hx
          · exact w
          · cases hx
      simp only [PyData.weight]
      exact z
    · decide
  have ln := PyData.shown_le 1921 (by decide) _ ls
  have hz : (PyData.list [d, d]).shown.length ≤ sizeLine := Nat.le_trans ln (Nat.le_trans (Nat.add_le_add_right (Nat.mul_le_mul_left _ wt) _) (by decide))
  unfold MM.rpr
  rw [if_pos ⟨sh, sw, hz⟩]
theorem chkB {F : FM} {ia ib : Nat} {E : IEnv} {g : IH} {a b v : IV} {D : PyData} {f : EM} {i : Int} (hF : F [a, b] g = .ok v g) (ea : E[ia]? = some (some a)) (eb : E[ib]? = some (some b)) (hf : f E g = .ok v g) (fl : FlatH g) (d : toD g 66 v = some D) (hd : (D = .int i ∧ i.natAbs < 2 ^ 1900) ∨ D = .none) :
    toB (MM.e2 cNe (gcE (eReprL (lLst (aCons (eC F (aCons (eVar ia) (aCons (eVar ib) (aNil)))) (aCons (eCK F [1, 0] aNil (aCons (eVar ib) (aCons (eVar ia) (aNil)))) (aNil)))))) (gcE (eReprL (lLst (aCons f (aCons f (aNil))))))) E g = .ok false g := by
  have x1 := lst_run (aCons_run (f := eC F (aCons (eVar ia) (aCons (eVar ib) (aNil)))) (g := aCons (eCK F [1, 0] aNil (aCons (eVar ib) (aCons (eVar ia) (aNil)))) aNil) (e := E) (h := g) (eC_run (vs := [a, b]) (aCons_run (var_run ea) (aCons_run (var_run eb) rfl)) hF) (aCons_run (eCK_run (us := [b, a]) (vs := [a, b]) (aCons_run (var_run eb) (aCons_run (var_run ea) rfl)) rfl hF) rfl)) (by show 2 ≤ 2 ^ 20; decide)
  have x2 := lst_run (aCons_run hf (aCons_run (g := aNil) hf rfl)) (by show 2 ≤ 2 ^ 20; decide)
  have run : ∀ {f : IEnv → IH → R (List IV)}, f E g = .ok [v, v] g → gcE (eReprL f) E g = .ok (.str (PyData.list [D, D]).shown) g := fun {f} q => by
    unfold gcE eReprL
    rw [q]
    dsimp only [R.bind]
    rw [optD2 d d]
    dsimp only
    rw [rpr_big hd]
    dsimp only
    have t := fin_val (n := g.length) fl (v := .str (PyData.list [D, D]).shown) rfl
    rw [t, List.take_length]
  exact toB_run' (e2_run' (run x1) (run x2) (same_str _))
def cell0 : Int := 67679081387164818670000000000000000000000302222222528222222226
open Classical in
theorem holds (ns : List Int) (hn : ns.length ≤ 63) (_ : ∀ z ∈ ns, Builtin.Int.intBits z ≤ 1048576) : ∃ h', F_law [.scr ns] [] = .ok (.bl true) h' := by
  suffices q : okR (F_law [.scr ns] []) fun v _ => v = .bl true by
    obtain ⟨v, h, e, rfl⟩ := q.get
    exact ⟨h, e⟩
  refine F_retE (F := F_law) rfl rfl ?_
  show wpS (b_law [some (.scr ns), none, none, none, none, none, none, none, none, none, none, none, none, none] []) _ _
  unfold b_law
  have hit : iFresh (lCat (lLst (aCons (eK (.int cell0)) aNil)) (lCut (eVar 0) oN (oS (eK (.int 5))))) [some (.scr ns), none, none, none, none, none, none, none, none, none, none, none, none, none] [] = .ok (iz (cell0 :: cut ns none (some 5)), fun _ => true) [] := by
    have hl := cut_len ns none (some 5)
    have a1 : lLst (aCons (eK (.int cell0)) aNil) [some (.scr ns), none, none, none, none, none, none, none, none, none, none, none, none, none] [] = .ok [.int cell0] [] := lst_run rfl (by show 1 ≤ 2 ^ 20; decide)
    have a2 : lCut (eVar 0) oN (oS (eK (.int 5))) [some (.scr ns), none, none, none, none, none, none, none, none, none, none, none, none, none] [] = .ok (iz (cut ns none (some 5))) [] := by
      rw [iz, ← cut_map]
      rfl
    have a3 : [IV.int cell0].length + (iz (cut ns none (some 5))).length ≤ sizeLine := Nat.le_trans (by rw [List.length_map, List.length_singleton]; omega : _ ≤ 2 ^ 20) (by decide)
    unfold iFresh lCat
    rw [a1]
    dsimp only [R.bind]
    rw [a2]
    dsimp only
    rw [if_pos a3]
    rfl
  refine w_seq (w_for (fun _ e h => FlatH h ∧ ∃ a1 a2 a3 a4 a5 a6 a7 a8 a9 a10 a11 a12 a13, e = [some (.scr ns), a1, a2, a3, a4, a5, a6, a7, a8, a9, a10, a11, a12, a13]) hit
    ⟨.nil, _, _, _, _, _, _, _, _, _, _, _, _, _, rfl⟩ (fun _ _ _ _ _ => rfl) ?_ ?_)
  rotate_left
  · rintro e h ⟨f, -⟩
    refine w_ret (okR.of (a := .bl true) (h := h) rfl ?_)
    rw [fin_val f rfl]
    exact .here rfl
  rintro i hi e h ⟨f, a1, a2, a3, a4, a5, a6, a7, a8, a9, a10, a11, a12, a13, rfl⟩
  obtain ⟨c, hc⟩ : ∃ c : Int, (iz (cell0 :: cut ns none (some 5)))[i] = .int c := ⟨_, List.getElem_map ..⟩
  rw [hc]
  refine ⟨_, _, rfl, ?_⟩
  obtain ⟨v, h1, q1, rfl, c1, l1, -⟩ := (f_cup c h f).get
  generalize h.length = k at q1 c1 l1
  refine w_seq (w_asg (okR.of (eC_run (vs := [.int c]) rfl q1) ⟨[some (.scr ns), some (.int c), some (.ref k), a3, a4, a5, a6, a7, a8, a9, a10, a11, a12, a13], _, rfl, ?_⟩))
  obtain ⟨v, h2, q2, d, rfl, d0, d1, c2, -⟩ := (f_sip k 10 h1 c1 (by decide) (by decide)).get
  have nd : MM.e2 bAdd (eK (.int 1)) (eC F__law_sip (aCons (eVar 2) (aCons (eK (.int 10)) aNil))) [some (.scr ns), some (.int c), some (.ref k), a3, a4, a5, a6, a7, a8, a9, a10, a11, a12, a13] h1 = .ok (.int (1 + d)) h2 := e2_run' rfl (eC_run (vs := [.ref k, .int 10]) rfl q2) rfl
  have hn1 : 1 ≤ 1 + d := by omega
  have hn2 : 1 + d ≤ 10 := by omega
  generalize 1 + d = n at hn1 hn2 nd
  obtain ⟨v, h3, q3, xs, rfl, cx, c3, -⟩ := (f_chart k n h2 c2 hn1 hn2).get
  have lx := cx.len
  have P := pths cx
  have ro := rngs_ok P
  have rs : ∀ L ∈ rngs xs n, L.length ≤ 10 ∧ ∀ x ∈ L, x.natAbs < 10 ^ 12 := fun L hL => ⟨(ro.2 L hL).1, small_of hn2 (ro.2 L hL).2.1⟩
  refine w_seq (w_asg (okR.of (eC_run (vs := [.ref k, .int n]) (aCons_run rfl (aCons_run nd rfl)) q3) ⟨[some (.scr ns), some (.int c), some (.ref k), some (.tup (iz xs)), a4, a5, a6, a7, a8, a9, a10, a11, a12, a13], _, rfl, ?_⟩))
  -- the rings
  have f3 := c3.flat
  have lr := f_lrings P h3 f3
  have ln : ∀ (e : IEnv) (g : IH), e[3]? = some (some (.tup (iz xs))) → eLen (qV (eVar 3)) e g = .ok (.int n) g := fun e g q => by
    have v := var_run (g := g) q
    simp only [List.map_cons, List.map_nil, List.cons_append, List.nil_append, List.length_cons, List.length_nil, Nat.zero_add, Nat.sub_self, Nat.reduceAdd, Nat.reduceSub, List.replicate_zero, List.replicate_succ, sRet, sRetN, sSeq, sIf, sExpr, sNil, sAsg, sPar, gNm, eAnd, eOr, eNot, eIf, eC, eCK, eTup, lLst, eNew, aCons, aNil, e1, e2, eVar, eK, eChain, eTuple, eLen, qV, items, toB, tAndM, tOrM, tNotM, bAdd, bSub, uInt, uNeg, cLe, cLt, cGt, cGe, R.bind, RS.of, List.getElem?_cons_zero, List.getElem?_cons_succ, List.set_cons_zero, List.set_cons_succ, gSb, ixN20, ixN21, List.zip_cons_cons, List.zip_nil_left, List.foldl_cons, List.foldl_nil, wpS_nx, wpS_rt, okR_ok, if_true, Bool.not_false, Bool.not_true, and_self, Bool.false_eq_true, if_false, q, List.length_map, lx]
  have ad := at_last h3 (.lst (itz (rngs xs n)))
  have f4 : FlatH (h3 ++ [.lst (itz (rngs xs n))]) := f3.app (itz_below 0 _)
  have kl3 := c3.lt
  have ck4 : Cup k (h3 ++ [.lst (itz (rngs xs n))]) := c3.at_ f4 (List.getElem?_append_left kl3)
  refine w_seq (w_asg (okR.of (eC_run (vs := [.tup (iz xs)]) rfl lr) ⟨[some (.scr ns), some (.int c), some (.ref k), some (.tup (iz xs)), some (.ref h3.length), a5, a6, a7, a8, a9, a10, a11, a12, a13], _, rfl, ?_⟩))
  generalize h3 ++ [IO.lst (itz (rngs xs n))] = h4 at ad f4 ck4
  generalize h3.length = kd at ad
  -- the places on rings
  have there : lLc [11] (iRg1 (eLen (qV (eVar 3)))) (gNm 11) (gcT (toB (MM.e2 cNe (eNew (lLc [12] (iLstV (eVar 4)) (gNm 12) (toB (MM.e2 cIn (eVar 11) (eVar 12))) (eVar 12))) (eNew (lLst (aNil)))))) (eVar 11) [some (.scr ns), some (.int c), some (.ref k), some (.tup (iz xs)), some (.ref kd), a5, a6, a7, a8, a9, a10, a11, a12, a13] h4 = .ok (iz (onr xs n)) h4 := by
    have lc := lLc_pure (own := [11]) (it := iRg1 (eLen (qV (eVar 3)))) (g := gNm 11) (c := gcT (toB (MM.e2 cNe (eNew (lLc [12] (iLstV (eVar 4)) (gNm 12) (toB (MM.e2 cIn (eVar 11) (eVar 12))) (eVar 12))) (eNew (lLst (aNil)))))) (f := eVar 11) (e := [some (.scr ns), some (.int c), some (.ref k), some (.tup (iz xs)), some (.ref kd), a5, a6, a7, a8, a9, a10, a11, a12, a13]) (h := h4) (mk := IV.int) (mv := IV.int) (v := id) (p := fun x => !((rngs xs n).filter fun r => r.contains x).isEmpty) (it_rg1 (ln _ _ rfl) (by omega) (by omega)) rfl (by rw [rng_len]; omega) (fun x hx => by
      refine ⟨[some (.scr ns), some (.int c), some (.ref k), some (.tup (iz xs)), some (.ref kd), a5, a6, a7, a8, a9, a10, some (.int x), a12, a13], rfl, ?_, fun _ => rfl⟩
      have inn := lLc_pure2 (own := [12]) (it := iLstV (eVar 4)) (g := gNm 12) (c := toB (MM.e2 cIn (eVar 11) (eVar 12))) (f := eVar 12) (e := [some (.scr ns), some (.int c), some (.ref k), some (.tup (iz xs)), some (.ref kd), a5, a6, a7, a8, a9, a10, some (.int x), a12, a13]) (h := h4) (h1 := h4) (mk := fun L => IV.tup (iz L)) (mv := fun L => IV.tup (iz L)) (v := id) (p := fun r => r.contains x) (xs := rngs xs n) (it_lstV rfl ad) (stands_of ad) (Nat.le_trans ro.1 (by decide)) (fun r hr => ⟨_, rfl, toB_run' (e2_run' rfl rfl cin_iz), fun _ => rfl⟩)
      rw [List.map_id] at inn
      exact ne_nil_itz inn f4 (Nat.le_trans (List.length_filter_le ..) ro.1) fun L hL => rs L (List.mem_filter.mp hL).1)
    rw [List.map_id] at lc
    rw [lc]
    refine congrArg (fun l => R.ok (iz l) h4) ?_
    unfold onr
    refine List.filter_congr fun x hx => ?_
    have hm := rng_mem.mp hx
    rw [Bool.eq_iff_iff, decide_eq_true_eq, P.in_ring hm.1 hm.2]
    constructor
    · intro h
      cases hf : (rngs xs n).filter (fun r => r.contains x) with
      | nil => rw [hf] at h; cases h
      | cons r l =>
        have : r ∈ (rngs xs n).filter (fun r => r.contains x) := by rw [hf]; exact List.mem_cons_self ..
        obtain ⟨p1, p2⟩ := List.mem_filter.mp this
        exact ⟨r, p1, List.contains_iff_mem.mp p2⟩
    · rintro ⟨r, p1, p2⟩
      have : r ∈ (rngs xs n).filter (fun r => r.contains x) := List.mem_filter.mpr ⟨p1, List.contains_iff_mem.mpr p2⟩
      cases hf : (rngs xs n).filter (fun r => r.contains x) with
      | nil => rw [hf] at this; cases this
      | cons r l => rfl
  refine w_seq (w_asg (okR.of (eNew_run there) ⟨[some (.scr ns), some (.int c), some (.ref k), some (.tup (iz xs)), some (.ref kd), some (.ref h4.length), a6, a7, a8, a9, a10, a11, a12, a13], _, rfl, ?_⟩))
  have at5 := at_last h4 (.lst (iz (onr xs n)))
  have kdl : kd < h4.length := (List.getElem?_eq_some_iff.mp ad).1
  have ad5 : (h4 ++ [IO.lst (iz (onr xs n))])[kd]? = some (.lst (itz (rngs xs n))) := by rw [List.getElem?_append_left kdl]; exact ad
  have f5 : FlatH (h4 ++ [.lst (iz (onr xs n))]) := f4.app (ints_below 0 _)
  have ck5 : Cup k (h4 ++ [.lst (iz (onr xs n))]) := ck4.at_ f5 (List.getElem?_append_left ck4.lt)
  generalize h4 ++ [IO.lst (iz (onr xs n))] = h5 at ad5 f5 ck5 at5
  generalize h4.length = kt at at5
  clear there ad f4 ck4 lr c3 f3
  -- the dues
  have dl : lLc [11] (iRg1 (eLen (qV (eVar 3)))) (gNm 11) (tYesM) (gcE (eLen (lLc [13] (iLstV (MM.e2 bIx (eC F__law_way (aCons (eVar 3) (aCons (eVar 11) (aNil)))) (eK (.int 0)))) (gNm 13) (toB (MM.e2 cNin (eVar 13) (eVar 5))) (eVar 13)))) [some (.scr ns), some (.int c), some (.ref k), some (.tup (iz xs)), some (.ref kd), some (.ref kt), a6, a7, a8, a9, a10, a11, a12, a13] h5 = .ok (iz (deps xs n)) h5 := by
    refine lLc_map (mk := IV.int) (mv := IV.int) (v := fun x => ((dep xs n x : Nat) : Int)) (it_rg1 (ln _ _ rfl) (by omega) (by omega)) rfl (by rw [rng_len]; omega) (fun x hx => ?_)
    have hm := rng_mem.mp hx
    refine ⟨[some (.scr ns), some (.int c), some (.ref k), some (.tup (iz xs)), some (.ref kd), some (.ref kt), a6, a7, a8, a9, a10, some (.int x), a12, a13], rfl, ?_⟩
    obtain ⟨v, g2, e2', L, t, ht, rfl, rfl, hp, hmm, et⟩ := (f_lway cx hm.1 hm.2 h5).get
    have pl := pth_is hp
    have ll := nodup_len hp.nd hmm
    have alL := at_last h5 (.lst (iz L))
    have fg2 : FlatH (h5 ++ [.lst (iz L)]) := f5.app (ints_below 0 _)
    have k2 : (h5 ++ [IO.lst (iz L)])[kt]? = some (.lst (iz (onr xs n))) := by rw [List.getElem?_append_left (List.getElem?_eq_some_iff.mp at5).1]; exact at5
    have inn := lLc_pure2 (own := [13]) (it := iLstV (MM.e2 bIx (eC F__law_way (aCons (eVar 3) (aCons (eVar 11) (aNil)))) (eK (.int 0)))) (g := gNm 13) (c := toB (MM.e2 cNin (eVar 13) (eVar 5))) (f := eVar 13) (e := [some (.scr ns), some (.int c), some (.ref k), some (.tup (iz xs)), some (.ref kd), some (.ref kt), a6, a7, a8, a9, a10, some (.int x), a12, a13]) (h := h5) (h1 := h5 ++ [.lst (iz L)]) (mk := IV.int) (mv := IV.int) (v := id) (p := fun y => !(onr xs n).contains y) (xs := L) (it_lstV (e2_run' (eC_run (vs := [.tup (iz xs), .int x]) rfl e2') rfl rfl) alL) (stands_of alL) (by omega) (fun y hy => ⟨_, rfl, toB_run' (e2_run' rfl rfl (cnin_ref k2)), fun _ => rfl⟩)
    unfold gcE eLen
    rw [inn]
    dsimp only [R.bind]
    rw [fin_val fg2 rfl, List.take_left, List.length_map, List.length_map]
    unfold dep isr
    rw [pl]
  refine w_seq (w_asg (okR.of (tuple_run dl) ⟨[some (.scr ns), some (.int c), some (.ref k), some (.tup (iz xs)), some (.ref kd), some (.ref kt), some (.tup (iz (deps xs n))), a7, a8, a9, a10, a11, a12, a13], _, rfl, ?_⟩))
  have dk := deps_ok P
  have rpD : Rp 1 (10 * 42) (dtup (deps xs n)) := rp_tup (fun x hx => by have := dk.2 x hx; omega) (by omega)
  refine w_seq (w_chk (chk1 (a := .tup (iz xs)) (f_depths P h5 f5) rfl rfl (toD_tup _ 64 _) rpD (by decide) (by decide)) ?_)
  obtain ⟨m, em, m0, m1⟩ := hgt_ex P
  have lo := lens_ok P
  have lb := lcmL_le lo.2
  have lensL : lLc [12] (iLstV (eVar 4)) (gNm 12) (tYesM) (eLen (qV (eVar 12))) [some (.scr ns), some (.int c), some (.ref k), some (.tup (iz xs)), some (.ref kd), some (.ref kt), some (.tup (iz (deps xs n))), a7, a8, a9, a10, a11, a12, a13] h5 = .ok (iz ((lens xs n).map Int.ofNat)) h5 := by
    have q := lLc_map2 (own := [12]) (it := iLstV (eVar 4)) (g := gNm 12) (f := eLen (qV (eVar 12))) (e := [some (.scr ns), some (.int c), some (.ref k), some (.tup (iz xs)), some (.ref kd), some (.ref kt), some (.tup (iz (deps xs n))), a7, a8, a9, a10, a11, a12, a13]) (h := h5) (h1 := h5) (mk := fun L => IV.tup (iz L)) (mv := IV.int) (v := fun L => ((List.length L : Nat) : Int)) (xs := rngs xs n) (it_lstV rfl ad5) (stands_of ad5) (Nat.le_trans ro.1 (by decide)) (fun L hL => ⟨_, rfl, by show R.ok (IV.int ((iz L).length : Nat)) h5 = _; rw [List.length_map]⟩)
    rw [q]
    unfold lens
    simp only [iz, List.map_map]
    rfl
  have at6 := at_last h5 (.lst (iz ((lens xs n).map Int.ofNat)))
  have f6 : FlatH (h5 ++ [.lst (iz ((lens xs n).map Int.ofNat))]) := f5.app (ints_below 0 _)
  have ck6 : Cup k (h5 ++ [.lst (iz ((lens xs n).map Int.ofNat))]) := ck5.at_ f6 (List.getElem?_append_left ck5.lt)
  have kt6 : (h5 ++ [IO.lst (iz ((lens xs n).map Int.ofNat))])[kt]? = some (.lst (iz (onr xs n))) := by rw [List.getElem?_append_left (List.getElem?_eq_some_iff.mp at5).1]; exact at5
  have lea := f_least (k := h5.length) lo _ f6 at6
  generalize hh6 : h5 ++ [IO.lst (iz ((lens xs n).map Int.ofNat))] = h6 at at6 f6 ck6 kt6 lea
  refine w_seq (w_par (okR.of (a := [.int m, .int (lcmL (lens xs n) : Nat)]) (h := h6) (aCons_run (maxT_run rfl em) (aCons_run (eC_run (vs := [.ref h5.length]) (aCons_run (by rw [← hh6]; exact eNew_run lensL) rfl) lea) rfl)) ⟨rfl, ?_⟩))
  show wpS (sSeq (sIf _ _ _) _ [some (.scr ns), some (.int c), some (.ref k), some (.tup (iz xs)), some (.ref kd), some (.ref kt), some (.tup (iz (deps xs n))), a7, some (.int m), some (.int (lcmL (lens xs n) : Nat)), a10, a11, a12, a13] h6) _ _
  clear lensL dl lea
  have rpI : ∀ z : Int, 0 ≤ z → z < 10 ^ 11 → Rp 0 41 (.int z) := fun z z0 z1 => Rp.int (by omega)
  refine w_seq (w_chk (chk1 (a := .tup (iz xs)) (f_height P em h6 f6) rfl rfl rfl (rpI m m0 (by omega)) (by decide) (by decide)) ?_)
  have fp := f_period P h6 f6
  refine w_seq (w_chk (chk1 (a := .tup (iz xs)) fp rfl rfl rfl (rpI _ (by omega) (by omega)) (by decide) (by decide)) ?_)
  refine w_seq (w_chk ?_ ?_)
  · have q := f_places P h6 f6 kt6
    show tNotM (toB (eC F__law_places_right (aCons (eVar 3) (aCons (eVar 5) (aCons (eVar 6) aNil))))) _ _ = _
    unfold tNotM
    rw [toB_run' (eC_run (vs := [.tup (iz xs), .ref kt, .tup (iz (deps xs n))]) rfl q)]
    rfl
  have fr := fun N N0 => f_first_repeat (n := n) (m := m) (N := N) P em N0
  generalize lcmL (lens xs n) = p at lb fr
  -- the numbers
  obtain ⟨v, h7, q7, N, rfl, N0, N1, c7, -⟩ := (f_number k h6 ck6).get
  have f7 := c7.flat
  have mx : bMax (.int 0) (.int (m - 1)) h6 = .ok (.int (if m - 1 > 0 then m - 1 else 0)) h6 := rfl
  have nums : iFresh (lLst (aCons (eK (.int 0)) (aCons (eVar 8) (aCons (MM.e2 bMax (eK (.int 0)) (MM.e2 bSub (eVar 8) (eK (.int 1)))) (aCons (MM.e2 bAdd (eVar 8) (eK (.int 1))) (aCons (eC F__law_number (aCons (eVar 2) (aNil))) (aNil))))))) [some (.scr ns), some (.int c), some (.ref k), some (.tup (iz xs)), some (.ref kd), some (.ref kt), some (.tup (iz (deps xs n))), a7, some (.int m), some (.int (p : Nat)), a10, a11, a12, a13] h6 = .ok (iz [0, m, if m - 1 > 0 then m - 1 else 0, m + 1, N], fun _ => true) h7 := by
    have x := lst_run (aCons_run (f := eK (.int 0)) (e := [some (.scr ns), some (.int c), some (.ref k), some (.tup (iz xs)), some (.ref kd), some (.ref kt), some (.tup (iz (deps xs n))), a7, some (.int m), some (.int (p : Nat)), a10, a11, a12, a13]) (h := h6) rfl (aCons_run (f := eVar 8) rfl (aCons_run (f := MM.e2 bMax (eK (.int 0)) (MM.e2 bSub (eVar 8) (eK (.int 1)))) (e2_run' rfl (e2_run' rfl rfl rfl) mx) (aCons_run (f := MM.e2 bAdd (eVar 8) (eK (.int 1))) (e2_run' rfl rfl rfl) (aCons_run (f := eC F__law_number (aCons (eVar 2) (aNil))) (g := aNil) (eC_run (vs := [.ref k]) rfl q7) rfl))))) (by show 5 ≤ 2 ^ 20; decide)
    unfold iFresh
    rw [x]
    rfl
  have nb : ∀ z ∈ [0, m, if m - 1 > 0 then m - 1 else 0, m + 1, N], 0 ≤ z ∧ z < 2 ^ 1000 + 20 := by
    have b := (by decide +kernel : (100 : Int) < 2 ^ 1000)
    generalize (2 : Int) ^ 1000 = B at b N1
    intro z hz
    simp only [List.mem_cons, List.not_mem_nil, or_false] at hz
    rcases hz with rfl | rfl | rfl | rfl | rfl
    · omega
    · omega
    · split <;> omega
    · omega
    · omega
  generalize [0, m, if m - 1 > 0 then m - 1 else 0, m + 1, N] = Ns at nums nb
  refine w_for (fun _ e h => h = h7 ∧ ∃ a7 a10, e = [some (.scr ns), some (.int c), some (.ref k), some (.tup (iz xs)), some (.ref kd), some (.ref kt), some (.tup (iz (deps xs n))), a7, some (.int m), some (.int (p : Nat)), a10, a11, a12, a13]) nums ⟨rfl, _, _, rfl⟩ (fun _ _ _ _ _ => rfl) ?_ ?_
  rotate_left
  · rintro e g ⟨rfl, b7, b10, rfl⟩
    exact ⟨f7, _, _, _, _, _, _, _, _, _, _, _, _, _, rfl⟩
  rintro i hi e g ⟨rfl, b7, b10, rfl⟩
  obtain ⟨z, hz, ez⟩ : ∃ z ∈ Ns, (iz Ns)[i] = .int z := ⟨Ns[i]'(by rw [List.length_map] at hi; exact hi), List.getElem_mem _, List.getElem_map ..⟩
  have zb := nb z hz
  rw [ez]
  refine ⟨[some (.scr ns), some (.int c), some (.ref k), some (.tup (iz xs)), some (.ref kd), some (.ref kt), some (.tup (iz (deps xs n))), some (.int z), some (.int m), some (.int (p : Nat)), b10, a11, a12, a13], _, rfl, ?_⟩
  have due : eIf (toB (MM.e2 cGe (eVar 7) (eVar 8))) (MM.e2 bAdd (eVar 7) (eVar 9)) (eK .non) [some (.scr ns), some (.int c), some (.ref k), some (.tup (iz xs)), some (.ref kd), some (.ref kt), some (.tup (iz (deps xs n))), some (.int z), some (.int m), some (.int (p : Nat)), b10, a11, a12, a13] g = .ok (if m ≤ z then .int (z + (p : Nat)) else .non) g := by
    unfold eIf
    rw [toB_run' (e2_run' (o := cGe) (f := eVar 7) (g := eVar 8) (x := .int z) (y := .int m) (r := .ok (.bl (decide (m ≤ z))) g) rfl rfl rfl)]
    dsimp only [R.bind]
    by_cases hc : m ≤ z
    · rw [decide_eq_true hc, if_pos rfl, if_pos hc]; rfl
    · rw [decide_eq_false hc, if_neg (by decide), if_neg hc]; rfl
  refine w_seq (w_asg (okR.of due ⟨[some (.scr ns), some (.int c), some (.ref k), some (.tup (iz xs)), some (.ref kd), some (.ref kt), some (.tup (iz (deps xs n))), some (.int z), some (.int m), some (.int (p : Nat)), some (if m ≤ z then .int (z + (p : Nat)) else .non), a11, a12, a13], _, rfl, ?_⟩))
  refine w_chk (chkB (i := z + (p : Nat)) (a := .tup (iz xs)) (b := .int z) (D := if m ≤ z then .int (z + (p : Nat)) else .none) (fr z zb.1 g f7) rfl rfl rfl f7 ?_ ?_) ⟨rfl, _, _, rfl⟩
  · by_cases hc : m ≤ z
    · rw [if_pos hc, if_pos hc]; rfl
    · rw [if_neg hc, if_neg hc]; rfl
  · by_cases hc : m ≤ z
    · rw [if_pos hc]
      refine .inl ⟨rfl, ?_⟩
      have b := (by decide +kernel : (2 : Int) ^ 1000 + 3000 < 2 ^ 1900)
      have b2 : ((2 ^ 1900 : Nat) : Int) = (2 : Int) ^ 1900 := by norm_cast
      have z1 := zb.2
      generalize (2 : Int) ^ 1000 = B at b z1
      generalize (2 : Int) ^ 1900 = B2 at b b2
      generalize (2 : Nat) ^ 1900 = B3 at b2 ⊢
      omega
    · rw [if_neg hc]; exact .inr rfl
end LW

namespace LW
open PySem L2 MM
def top (i : Nat) : Stmt := PySem.Challenge.pw_everynext_k06_depths_and_trees.main.body.getD i (.Pass ⟨0, 0, 0, 0⟩)
abbrev s__law_cup : Stmt := top 37
abbrev s__law_sip : Stmt := top 38
abbrev s__law_row : Stmt := top 39
abbrev s__law_chart : Stmt := top 40
abbrev s__law_way : Stmt := top 41
abbrev s__law_rings : Stmt := top 42
abbrev s_is_integer : Stmt := top 8
abbrev s_is_between : Stmt := top 10
abbrev s_is_chart : Stmt := top 14
abbrev s_check_chart : Stmt := top 15
abbrev s_image_of : Stmt := top 19
abbrev s_behind_of : Stmt := top 16
abbrev s_step_of : Stmt := top 17
abbrev s_on_rings_of : Stmt := top 21
abbrev s_way_of : Stmt := top 18
abbrev s_depths_of : Stmt := top 24
abbrev s_depths : Stmt := top 26
abbrev s__law_least : Stmt := top 44
abbrev s_height_of : Stmt := top 27
abbrev s_height : Stmt := top 28
abbrev s_ring_at : Stmt := top 22
abbrev s_rings_of : Stmt := top 23
abbrev s_period_of : Stmt := top 29
abbrev s_period : Stmt := top 30
abbrev s_check_place : Stmt := top 11
abbrev s_depth : Stmt := top 25
abbrev s_children_of : Stmt := top 31
abbrev s_children : Stmt := top 32
abbrev s_tree_of : Stmt := top 33
abbrev s_tree_over : Stmt := top 34
abbrev s__law_places_right : Stmt := top 45
abbrev s__law_number : Stmt := top 43
abbrev s_is_from : Stmt := top 9
abbrev s_check_number : Stmt := top 12
abbrev s_first_repeat : Stmt := top 35
abbrev s_law : Stmt := top 46
structure Bi (mg : Str → Option Value) : Prop where
  n_all : mg "all" = none
  n_any : mg "any" = none
  n_bool : mg "bool" = none
  n_enumerate : mg "enumerate" = none
  n_int : mg "int" = none
  n_isinstance : mg "isinstance" = none
  n_len : mg "len" = none
  n_list : mg "list" = none
  n_max : mg "max" = none
  n_min : mg "min" = none
  n_range : mg "range" = none
  n_repr : mg "repr" = none
  n_set : mg "set" = none
  n_sorted : mg "sorted" = none
  n_tuple : mg "tuple" = none
  c_MOST_PLACES : ∃ t, mg "MOST_PLACES" = some (.int 10 t)
  x_gcd : mg "gcd" = some (.builtin "math.gcd")
section
variable {P : Program} {w : World} {K : PySem.W.Frag} {mg : Str → Option Value} {base : Heap} {C : Cc}
theorem bi__law_cup {f : Addr} {fd : FuncData} (F1 : Fun K "_law_cup" "_law_cup" s__law_cup f fd) : Binds K fd ["_law_cell"] [] := F1.binds fun _ _ _ _ _ _ us hl => match us, hl with | [_], _ => rfl
theorem bi__law_sip {f : Addr} {fd : FuncData} (F1 : Fun K "_law_sip" "_law_sip" s__law_sip f fd) : Binds K fd ["_law_cup_here", "_law_many"] [] := F1.binds fun _ _ _ _ _ _ us hl => match us, hl with | [_, _], _ => rfl
theorem bi__law_row {f : Addr} {fd : FuncData} (F1 : Fun K "_law_row" "_law_row" s__law_row f fd) : Binds K fd ["_law_cup_here", "_law_many"] [] := F1.binds fun _ _ _ _ _ _ us hl => match us, hl with | [_, _], _ => rfl
theorem bi__law_chart {f : Addr} {fd : FuncData} (F1 : Fun K "_law_chart" "_law_chart" s__law_chart f fd) : Binds K fd ["_law_cup_here", "_law_many"] [] := F1.binds fun _ _ _ _ _ _ us hl => match us, hl with | [_, _], _ => rfl
theorem bi__law_way {f : Addr} {fd : FuncData} (F1 : Fun K "_law_way" "_law_way" s__law_way f fd) : Binds K fd ["_law_chart_here", "_law_place"] [] := F1.binds fun _ _ _ _ _ _ us hl => match us, hl with | [_, _], _ => rfl
theorem bi__law_rings {f : Addr} {fd : FuncData} (F1 : Fun K "_law_rings" "_law_rings" s__law_rings f fd) : Binds K fd ["_law_chart_here"] [] := F1.binds fun _ _ _ _ _ _ us hl => match us, hl with | [_], _ => rfl
theorem bi_is_integer {f : Addr} {fd : FuncData} (F1 : Fun K "is_integer" "is_integer" s_is_integer f fd) : Binds K fd ["value"] [] := F1.binds fun _ _ _ _ _ _ us hl => match us, hl with | [_], _ => rfl
theorem bi_is_between {f : Addr} {fd : FuncData} (F1 : Fun K "is_between" "is_between" s_is_between f fd) : Binds K fd ["low", "value", "high"] [] := F1.binds fun _ _ _ _ _ _ us hl => match us, hl with | [_, _, _], _ => rfl
theorem bi_is_chart {f : Addr} {fd : FuncData} (F1 : Fun K "is_chart" "is_chart" s_is_chart f fd) : Binds K fd ["value"] [] := F1.binds fun _ _ _ _ _ _ us hl => match us, hl with | [_], _ => rfl
theorem bi_check_chart {f : Addr} {fd : FuncData} (F1 : Fun K "check_chart" "check_chart" s_check_chart f fd) : Binds K fd ["value"] [] := F1.binds fun _ _ _ _ _ _ us hl => match us, hl with | [_], _ => rfl
theorem bi_image_of {f : Addr} {fd : FuncData} (F1 : Fun K "image_of" "image_of" s_image_of f fd) : Binds K fd ["chart"] [] := F1.binds fun _ _ _ _ _ _ us hl => match us, hl with | [_], _ => rfl
theorem bi_behind_of {f : Addr} {fd : FuncData} (F1 : Fun K "behind_of" "behind_of" s_behind_of f fd) : Binds K fd ["chart", "other"] [] := F1.binds fun _ _ _ _ _ _ us hl => match us, hl with | [_, _], _ => rfl
theorem bi_step_of {f : Addr} {fd : FuncData} (F1 : Fun K "step_of" "step_of" s_step_of f fd) : Binds K fd ["chart", "number"] [] := F1.binds fun _ _ _ _ _ _ us hl => match us, hl with | [_, _], _ => rfl
theorem bi_on_rings_of {f : Addr} {fd : FuncData} (F1 : Fun K "on_rings_of" "on_rings_of" s_on_rings_of f fd) : Binds K fd ["chart"] [] := F1.binds fun _ _ _ _ _ _ us hl => match us, hl with | [_], _ => rfl
theorem bi_way_of {f : Addr} {fd : FuncData} (F1 : Fun K "way_of" "way_of" s_way_of f fd) : Binds K fd ["chart", "place"] [] := F1.binds fun _ _ _ _ _ _ us hl => match us, hl with | [_, _], _ => rfl
theorem bi_depths_of {f : Addr} {fd : FuncData} (F1 : Fun K "depths_of" "depths_of" s_depths_of f fd) : Binds K fd ["chart"] [] := F1.binds fun _ _ _ _ _ _ us hl => match us, hl with | [_], _ => rfl
theorem bi_depths {f : Addr} {fd : FuncData} (F1 : Fun K "depths" "depths" s_depths f fd) : Binds K fd ["chart"] [] := F1.binds fun _ _ _ _ _ _ us hl => match us, hl with | [_], _ => rfl
theorem bi__law_least {f : Addr} {fd : FuncData} (F1 : Fun K "_law_least" "_law_least" s__law_least f fd) : Binds K fd ["_law_lengths"] [] := F1.binds fun _ _ _ _ _ _ us hl => match us, hl with | [_], _ => rfl
theorem bi_height_of {f : Addr} {fd : FuncData} (F1 : Fun K "height_of" "height_of" s_height_of f fd) : Binds K fd ["chart"] [] := F1.binds fun _ _ _ _ _ _ us hl => match us, hl with | [_], _ => rfl
theorem bi_height {f : Addr} {fd : FuncData} (F1 : Fun K "height" "height" s_height f fd) : Binds K fd ["chart"] [] := F1.binds fun _ _ _ _ _ _ us hl => match us, hl with | [_], _ => rfl
theorem bi_ring_at {f : Addr} {fd : FuncData} (F1 : Fun K "ring_at" "ring_at" s_ring_at f fd) : Binds K fd ["chart", "place"] [] := F1.binds fun _ _ _ _ _ _ us hl => match us, hl with | [_, _], _ => rfl
theorem bi_rings_of {f : Addr} {fd : FuncData} (F1 : Fun K "rings_of" "rings_of" s_rings_of f fd) : Binds K fd ["chart"] [] := F1.binds fun _ _ _ _ _ _ us hl => match us, hl with | [_], _ => rfl
theorem bi_period_of {f : Addr} {fd : FuncData} (F1 : Fun K "period_of" "period_of" s_period_of f fd) : Binds K fd ["chart"] [] := F1.binds fun _ _ _ _ _ _ us hl => match us, hl with | [_], _ => rfl
theorem bi_period {f : Addr} {fd : FuncData} (F1 : Fun K "period" "period" s_period f fd) : Binds K fd ["chart"] [] := F1.binds fun _ _ _ _ _ _ us hl => match us, hl with | [_], _ => rfl
theorem bi_check_place {f : Addr} {fd : FuncData} (F1 : Fun K "check_place" "check_place" s_check_place f fd) : Binds K fd ["many", "value"] [] := F1.binds fun _ _ _ _ _ _ us hl => match us, hl with | [_, _], _ => rfl
theorem bi_depth {f : Addr} {fd : FuncData} (F1 : Fun K "depth" "depth" s_depth f fd) : Binds K fd ["chart", "place"] [] := F1.binds fun _ _ _ _ _ _ us hl => match us, hl with | [_, _], _ => rfl
theorem bi_children_of {f : Addr} {fd : FuncData} (F1 : Fun K "children_of" "children_of" s_children_of f fd) : Binds K fd ["chart"] [] := F1.binds fun _ _ _ _ _ _ us hl => match us, hl with | [_], _ => rfl
theorem bi_children {f : Addr} {fd : FuncData} (F1 : Fun K "children" "children" s_children f fd) : Binds K fd ["chart", "place"] [] := F1.binds fun _ _ _ _ _ _ us hl => match us, hl with | [_, _], _ => rfl
theorem bi_tree_of {f : Addr} {fd : FuncData} (F1 : Fun K "tree_of" "tree_of" s_tree_of f fd) : Binds K fd ["chart", "place"] [] := F1.binds fun _ _ _ _ _ _ us hl => match us, hl with | [_, _], _ => rfl
theorem bi_tree_over {f : Addr} {fd : FuncData} (F1 : Fun K "tree_over" "tree_over" s_tree_over f fd) : Binds K fd ["chart", "place"] [] := F1.binds fun _ _ _ _ _ _ us hl => match us, hl with | [_, _], _ => rfl
theorem bi__law_places_right {f : Addr} {fd : FuncData} (F1 : Fun K "_law_places_right" "_law_places_right" s__law_places_right f fd) : Binds K fd ["_law_chart_here", "_law_there", "_law_dues"] [] := F1.binds fun _ _ _ _ _ _ us hl => match us, hl with | [_, _, _], _ => rfl
theorem bi__law_number {f : Addr} {fd : FuncData} (F1 : Fun K "_law_number" "_law_number" s__law_number f fd) : Binds K fd ["_law_cup_here"] [] := F1.binds fun _ _ _ _ _ _ us hl => match us, hl with | [_], _ => rfl
theorem bi_is_from {f : Addr} {fd : FuncData} (F1 : Fun K "is_from" "is_from" s_is_from f fd) : Binds K fd ["low", "value"] [] := F1.binds fun _ _ _ _ _ _ us hl => match us, hl with | [_, _], _ => rfl
theorem bi_check_number {f : Addr} {fd : FuncData} (F1 : Fun K "check_number" "check_number" s_check_number f fd) : Binds K fd ["value"] [] := F1.binds fun _ _ _ _ _ _ us hl => match us, hl with | [_], _ => rfl
theorem bi_first_repeat {f : Addr} {fd : FuncData} (F1 : Fun K "first_repeat" "first_repeat" s_first_repeat f fd) : Binds K fd ["chart", "number"] [] := F1.binds fun _ _ _ _ _ _ us hl => match us, hl with | [_, _], _ => rfl
theorem kw_0 {f : Addr} {fd : FuncData} (F1 : Fun K "depth" "depth" s_depth f fd) : KwOk K fd ["chart", "place"] ["place", "chart"] [1, 0] 0 := MM.Fun.kw F1 fun _ _ _ _ _ _ us ws h1 h2 => match us, ws, h1, h2 with | [], [_, _], _, _ => rfl
theorem kw_1 {f : Addr} {fd : FuncData} (F1 : Fun K "children" "children" s_children f fd) : KwOk K fd ["chart", "place"] ["place", "chart"] [1, 0] 0 := MM.Fun.kw F1 fun _ _ _ _ _ _ us ws h1 h2 => match us, ws, h1, h2 with | [], [_, _], _, _ => rfl
theorem kw_2 {f : Addr} {fd : FuncData} (F1 : Fun K "tree_over" "tree_over" s_tree_over f fd) : KwOk K fd ["chart", "place"] ["place", "chart"] [1, 0] 0 := MM.Fun.kw F1 fun _ _ _ _ _ _ us ws h1 h2 => match us, ws, h1, h2 with | [], [_, _], _, _ => rfl
theorem kw_3 {f : Addr} {fd : FuncData} (F1 : Fun K "depths" "depths" s_depths f fd) : KwOk K fd ["chart"] ["chart"] [0] 0 := MM.Fun.kw F1 fun _ _ _ _ _ _ us ws h1 h2 => match us, ws, h1, h2 with | [], [_], _, _ => rfl
theorem kw_4 {f : Addr} {fd : FuncData} (F1 : Fun K "height" "height" s_height f fd) : KwOk K fd ["chart"] ["chart"] [0] 0 := MM.Fun.kw F1 fun _ _ _ _ _ _ us ws h1 h2 => match us, ws, h1, h2 with | [], [_], _, _ => rfl
theorem kw_5 {f : Addr} {fd : FuncData} (F1 : Fun K "period" "period" s_period f fd) : KwOk K fd ["chart"] ["chart"] [0] 0 := MM.Fun.kw F1 fun _ _ _ _ _ _ us ws h1 h2 => match us, ws, h1, h2 with | [], [_], _, _ => rfl
theorem kw_6 {f : Addr} {fd : FuncData} (F1 : Fun K "first_repeat" "first_repeat" s_first_repeat f fd) : KwOk K fd ["chart", "number"] ["number", "chart"] [1, 0] 0 := MM.Fun.kw F1 fun _ _ _ _ _ _ us ws h1 h2 => match us, ws, h1, h2 with | [], [_, _], _, _ => rfl
theorem sc__law_cup : FnScope ["_law_cell"] ["_law_cell"] (defScope s__law_cup) := ⟨rfl, rfl, rfl, by decide +kernel, rfl, by decide +kernel, by decide +kernel⟩
theorem ok__law_cup {f : Addr} {fd : FuncData} (Fn : Fun K "_law_cup" "_law_cup" s__law_cup f fd) (T : Bi mg) :
    FnM P w K mg base C 1 f fd ["_law_cell"] F__law_cup := by
  refine fn_mk Fn sc__law_cup rfl fun cdv A outer s H E hr hgd => ?_
  exact (ms_one (ms_ret (m_new (m_lst (m_aCons (m_if (m_cmpT om_ge (m_var (i := 0) rfl (by first | exact Or.inl rfl | exact Or.inr (Or.inl rfl) | exact Or.inr (Or.inr rfl)) rfl rfl) (m_op om_pow m_int m_int) rfl) (m_op om_sub (m_int1 (by rfl) (T.n_int) (m_var (i := 0) rfl (by first | exact Or.inl rfl | exact Or.inr (Or.inl rfl) | exact Or.inr (Or.inr rfl)) rfl rfl) (by rfl) (by rfl)) (m_op om_pow m_int m_int)) m_int) (m_aCons (m_op om_add (m_op om_mod (m_int1 (by rfl) (T.n_int) (m_var (i := 0) rfl (by first | exact Or.inl rfl | exact Or.inr (Or.inl rfl) | exact Or.inr (Or.inr rfl)) rfl rfl) (by rfl) (by rfl)) m_int) m_int) m_aNil rfl) rfl)))))
theorem sc__law_sip : FnScope ["_law_cup_here", "_law_many", "_law_drop"] ["_law_cup_here", "_law_many"] (defScope s__law_sip) := ⟨rfl, rfl, rfl, by decide +kernel, rfl, by decide +kernel, by decide +kernel⟩
theorem ok__law_sip {f : Addr} {fd : FuncData} (Fn : Fun K "_law_sip" "_law_sip" s__law_sip f fd) (T : Bi mg) :
    FnM P w K mg base C 1 f fd ["_law_cup_here", "_law_many"] F__law_sip := by
  refine fn_mk Fn sc__law_sip rfl fun cdv A outer s H E hr hgd => ?_
  exact (ms_cons (ms_if (m_cmpT om_gt (m_ix (m_var (i := 0) rfl (by first | exact Or.inl rfl | exact Or.inr (Or.inl rfl) | exact Or.inr (Or.inr rfl)) rfl rfl) m_int (fun _ _ => rfl)) m_int rfl) (ms_cons (ms_asg (m_op om_mod (m_int1 (by rfl) (T.n_int) (m_ix (m_var (i := 0) rfl (by first | exact Or.inl rfl | exact Or.inr (Or.inl rfl) | exact Or.inr (Or.inr rfl)) rfl rfl) m_int (fun _ _ => rfl)) (by rfl) (by rfl)) (m_var (i := 1) rfl (by first | exact Or.inl rfl | exact Or.inr (Or.inl rfl) | exact Or.inr (Or.inr rfl)) rfl rfl)) (mg_name (i := 2) sc__law_sip.nd rfl (by first | exact Or.inl rfl | exact Or.inr rfl) (by first | exact Or.inl rfl | exact Or.inr rfl)) rfl rfl rfl)
    (ms_cons (ms_asg (m_op om_div (m_ix (m_var (i := 0) rfl (by first | exact Or.inl rfl | exact Or.inr (Or.inl rfl) | exact Or.inr (Or.inr rfl)) rfl rfl) m_int (fun _ _ => rfl)) (m_var (i := 1) rfl (by first | exact Or.inl rfl | exact Or.inr (Or.inl rfl) | exact Or.inr (Or.inr rfl)) rfl rfl)) (mg_sub (C := C) (W := fun _ _ _ _ => False) (m_var (i := 0) rfl (by first | exact Or.inl rfl | exact Or.inr (Or.inl rfl) | exact Or.inr (Or.inr rfl)) rfl rfl) m_int (fun _ => rfl)) rfl rfl rfl)
    (ms_one (ms_ret (m_var (i := 2) rfl (by first | exact Or.inl rfl | exact Or.inr (Or.inl rfl) | exact Or.inr (Or.inr rfl)) rfl rfl))))) ms_nil)
    (ms_cons (ms_asg (m_op om_mod (m_int1 (by rfl) (T.n_int) (m_op om_mul (m_ix (m_var (i := 0) rfl (by first | exact Or.inl rfl | exact Or.inr (Or.inl rfl) | exact Or.inr (Or.inr rfl)) rfl rfl) m_int (fun _ _ => rfl)) m_int) (by rfl) (by rfl)) m_int) (mg_sub (C := C) (W := fun _ _ _ _ => False) (m_var (i := 0) rfl (by first | exact Or.inl rfl | exact Or.inr (Or.inl rfl) | exact Or.inr (Or.inr rfl)) rfl rfl) m_int (fun _ => rfl)) rfl rfl rfl)
    (ms_one (ms_ret (m_op om_mod (m_op om_div (m_op om_mod (m_int1 (by rfl) (T.n_int) (m_op om_mul (m_ix (m_var (i := 0) rfl (by first | exact Or.inl rfl | exact Or.inr (Or.inl rfl) | exact Or.inr (Or.inr rfl)) rfl rfl) m_int (fun _ _ => rfl)) (m_ix (m_var (i := 0) rfl (by first | exact Or.inl rfl | exact Or.inr (Or.inl rfl) | exact Or.inr (Or.inr rfl)) rfl rfl) m_int (fun _ _ => rfl))) (by rfl) (by rfl)) m_int) m_int) (m_var (i := 1) rfl (by first | exact Or.inl rfl | exact Or.inr (Or.inl rfl) | exact Or.inr (Or.inr rfl)) rfl rfl))))))
theorem sc__law_row : FnScope ["_law_cup_here", "_law_many", "_law_left", "_law_row_here"] ["_law_cup_here", "_law_many"] (defScope s__law_row) := ⟨rfl, rfl, rfl, by decide +kernel, rfl, by decide +kernel, by decide +kernel⟩
theorem ok__law_row {f : Addr} {fd : FuncData} (Fn : Fun K "_law_row" "_law_row" s__law_row f fd) (T : Bi mg)
    (c__law_sip : CalM P w K mg base C 1 "_law_sip" s__law_sip ["_law_cup_here", "_law_many"] F__law_sip) :
    FnM P w K mg base C 2 f fd ["_law_cup_here", "_law_many"] F__law_row := by
  refine fn_mk Fn sc__law_row rfl fun cdv A outer s H E hr hgd => ?_
  exact (ms_cons (ms_par rfl sc__law_row.nd rfl rfl (by decide) rfl rfl (m_aCons (m_new (m_listRg (by rfl) (by rfl) (T.n_list) (by rfl) (T.n_range) (m_var (i := 1) rfl (by first | exact Or.inl rfl | exact Or.inr (Or.inl rfl) | exact Or.inr (Or.inr rfl)) rfl rfl) (by rfl) (by rfl))) (m_aCons (m_new (m_lst m_aNil)) m_aNil rfl) rfl) rfl rfl)
    (ms_cons (ms_while (passes_of rfl) (m_gcT (m_cmpT (om_ne (hu64 hr)) (m_var (i := 2) rfl (by first | exact Or.inl rfl | exact Or.inr (Or.inl rfl) | exact Or.inr (Or.inr rfl)) rfl rfl) (m_new (m_lst m_aNil)) rfl)) (ms_one (ms_expr (m_meth mm_append (m_var (i := 3) rfl (by first | exact Or.inl rfl | exact Or.inr (Or.inl rfl) | exact Or.inr (Or.inr rfl)) rfl rfl) (m_aCons (m_meth mm_pop (m_var (i := 2) rfl (by first | exact Or.inl rfl | exact Or.inr (Or.inl rfl) | exact Or.inr (Or.inr rfl)) rfl rfl) (m_aCons (g_call c__law_sip hr hgd (takes_of rfl rfl rfl rfl) (fun _ _ F1 => bi__law_sip F1) (m_aCons (m_var (i := 0) rfl (by first | exact Or.inl rfl | exact Or.inr (Or.inl rfl) | exact Or.inr (Or.inr rfl)) rfl rfl) (m_aCons (m_len (by rfl) (T.n_len) (pe_qV (m_var (i := 2) rfl (by first | exact Or.inl rfl | exact Or.inr (Or.inl rfl) | exact Or.inr (Or.inr rfl)) rfl rfl)) (by rfl) (by rfl)) m_aNil rfl) rfl)) m_aNil rfl) (fun h1 h2 h3 => pe_bm PySem.F.plainAttrs_list PySem.F.slot_list_pop PySem.F.type_list_pop h1 h2 h3)) m_aNil rfl) (fun h1 h2 h3 => pe_bm PySem.F.plainAttrs_list PySem.F.slot_list_append PySem.F.type_list_append h1 h2 h3)) rfl)))
    (ms_one (ms_ret (m_var (i := 3) rfl (by first | exact Or.inl rfl | exact Or.inr (Or.inl rfl) | exact Or.inr (Or.inr rfl)) rfl rfl)))))
theorem sc__law_chart : FnScope ["_law_cup_here", "_law_many", "_law_found", "_law_k", "_law_way_here", "_law_row_here", "_law_there"] ["_law_cup_here", "_law_many"] (defScope s__law_chart) := ⟨rfl, rfl, rfl, by decide +kernel, rfl, by decide +kernel, by decide +kernel⟩
theorem ok__law_chart {f : Addr} {fd : FuncData} (Fn : Fun K "_law_chart" "_law_chart" s__law_chart f fd) (T : Bi mg)
    (c__law_sip : CalM P w K mg base C 1 "_law_sip" s__law_sip ["_law_cup_here", "_law_many"] F__law_sip)
    (c__law_row : CalM P w K mg base C 2 "_law_row" s__law_row ["_law_cup_here", "_law_many"] F__law_row) :
    FnM P w K mg base C 3 f fd ["_law_cup_here", "_law_many"] F__law_chart := by
  refine fn_mk Fn sc__law_chart rfl fun cdv A outer s H E hr hgd => ?_
  exact (ms_cons (ms_par rfl sc__law_chart.nd rfl rfl (by decide) rfl rfl (m_aCons (g_call c__law_sip hr hgd (takes_of rfl rfl rfl rfl) (fun _ _ F1 => bi__law_sip F1) (m_aCons (m_var (i := 0) rfl (by first | exact Or.inl rfl | exact Or.inr (Or.inl rfl) | exact Or.inr (Or.inr rfl)) rfl rfl) (m_aCons m_int m_aNil rfl) rfl)) (m_aCons (g_call c__law_row hr hgd (takes_of rfl rfl rfl rfl) (fun _ _ F1 => bi__law_row F1) (m_aCons (m_var (i := 0) rfl (by first | exact Or.inl rfl | exact Or.inr (Or.inl rfl) | exact Or.inr (Or.inr rfl)) rfl rfl) (m_aCons (m_var (i := 1) rfl (by first | exact Or.inl rfl | exact Or.inr (Or.inl rfl) | exact Or.inr (Or.inr rfl)) rfl rfl) m_aNil rfl) rfl)) m_aNil rfl) rfl) rfl rfl)
    (ms_cons (ms_asg (m_new (m_rep (m_lst (m_aCons m_int m_aNil rfl)) (m_var (i := 1) rfl (by first | exact Or.inl rfl | exact Or.inr (Or.inl rfl) | exact Or.inr (Or.inr rfl)) rfl rfl))) (mg_name (i := 2) sc__law_chart.nd rfl (by first | exact Or.inl rfl | exact Or.inr rfl) (by first | exact Or.inl rfl | exact Or.inr rfl)) rfl rfl rfl)
    (ms_cons (ms_for (passes_of rfl) rfl (mi_rg1 (by rfl) (T.n_range) (m_var (i := 1) rfl (by first | exact Or.inl rfl | exact Or.inr (Or.inl rfl) | exact Or.inr (Or.inr rfl)) rfl rfl) (by rfl) (by rfl)) (mg_name (i := 3) sc__law_chart.nd rfl (by first | exact Or.inl rfl | exact Or.inr rfl) (by first | exact Or.inl rfl | exact Or.inr rfl)) (ms_cons (ms_asg (g_call c__law_sip hr hgd (takes_of rfl rfl rfl rfl) (fun _ _ F1 => bi__law_sip F1) (m_aCons (m_var (i := 0) rfl (by first | exact Or.inl rfl | exact Or.inr (Or.inl rfl) | exact Or.inr (Or.inr rfl)) rfl rfl) (m_aCons (m_var (i := 1) rfl (by first | exact Or.inl rfl | exact Or.inr (Or.inl rfl) | exact Or.inr (Or.inr rfl)) rfl rfl) m_aNil rfl) rfl)) (mg_name (i := 6) sc__law_chart.nd rfl (by first | exact Or.inl rfl | exact Or.inr rfl) (by first | exact Or.inl rfl | exact Or.inr rfl)) rfl rfl rfl)
    (ms_cons (ms_if (PW.pt (m_andT (m_cmpT (om_eq (hu64 hr)) (m_var (i := 4) rfl (by first | exact Or.inl rfl | exact Or.inr (Or.inl rfl) | exact Or.inr (Or.inr rfl)) rfl rfl) m_int rfl) (m_andT (m_cmpT om_gt (m_var (i := 3) rfl (by first | exact Or.inl rfl | exact Or.inr (Or.inl rfl) | exact Or.inr (Or.inr rfl)) rfl rfl) m_int rfl) (pw_and1 (m_cmpT om_gt (g_call c__law_sip hr hgd (takes_of rfl rfl rfl rfl) (fun _ _ F1 => bi__law_sip F1) (m_aCons (m_var (i := 0) rfl (by first | exact Or.inl rfl | exact Or.inr (Or.inl rfl) | exact Or.inr (Or.inr rfl)) rfl rfl) (m_aCons m_int m_aNil rfl) rfl)) m_int rfl))))) (ms_one (ms_asg (m_op om_sub (m_var (i := 3) rfl (by first | exact Or.inl rfl | exact Or.inr (Or.inl rfl) | exact Or.inr (Or.inr rfl)) rfl rfl) m_int) (mg_name (i := 6) sc__law_chart.nd rfl (by first | exact Or.inl rfl | exact Or.inr rfl) (by first | exact Or.inl rfl | exact Or.inr rfl)) rfl rfl rfl)) ms_nil)
    (ms_cons (ms_if (PW.pt (m_andT (m_cmpT (om_eq (hu64 hr)) (m_var (i := 4) rfl (by first | exact Or.inl rfl | exact Or.inr (Or.inl rfl) | exact Or.inr (Or.inr rfl)) rfl rfl) m_int rfl) (m_andT (m_cmpT om_gt (m_var (i := 3) rfl (by first | exact Or.inl rfl | exact Or.inr (Or.inl rfl) | exact Or.inr (Or.inr rfl)) rfl rfl) m_int rfl) (pw_and1 (m_cmpT om_gt (g_call c__law_sip hr hgd (takes_of rfl rfl rfl rfl) (fun _ _ F1 => bi__law_sip F1) (m_aCons (m_var (i := 0) rfl (by first | exact Or.inl rfl | exact Or.inr (Or.inl rfl) | exact Or.inr (Or.inr rfl)) rfl rfl) (m_aCons m_int m_aNil rfl) rfl)) m_int rfl))))) (ms_one (ms_asg (m_op om_mod (m_var (i := 6) rfl (by first | exact Or.inl rfl | exact Or.inr (Or.inl rfl) | exact Or.inr (Or.inr rfl)) rfl rfl) (m_op om_add m_int (m_op om_div (m_var (i := 3) rfl (by first | exact Or.inl rfl | exact Or.inr (Or.inl rfl) | exact Or.inr (Or.inr rfl)) rfl rfl) m_int))) (mg_name (i := 6) sc__law_chart.nd rfl (by first | exact Or.inl rfl | exact Or.inr rfl) (by first | exact Or.inl rfl | exact Or.inr rfl)) rfl rfl rfl)) ms_nil)
    (ms_one (ms_asg (m_ix (m_var (i := 5) rfl (by first | exact Or.inl rfl | exact Or.inr (Or.inl rfl) | exact Or.inr (Or.inr rfl)) rfl rfl) (m_var (i := 6) rfl (by first | exact Or.inl rfl | exact Or.inr (Or.inl rfl) | exact Or.inr (Or.inr rfl)) rfl rfl) (fun _ _ => rfl)) (mg_sub (C := C) (W := fun _ _ _ _ => False) (m_var (i := 2) rfl (by first | exact Or.inl rfl | exact Or.inr (Or.inl rfl) | exact Or.inr (Or.inr rfl)) rfl rfl) (m_ix (m_var (i := 5) rfl (by first | exact Or.inl rfl | exact Or.inr (Or.inl rfl) | exact Or.inr (Or.inr rfl)) rfl rfl) (m_var (i := 3) rfl (by first | exact Or.inl rfl | exact Or.inr (Or.inl rfl) | exact Or.inr (Or.inr rfl)) rfl rfl) (fun _ _ => rfl)) (fun _ => rfl)) rfl rfl rfl))))) (fun h1 h2 h3 h4 h5 => ps_for h1 h2 h3 h4 h5))
    (ms_one (ms_ret (m_if (m_cmpT (om_ne (hu64 hr)) (m_var (i := 4) rfl (by first | exact Or.inl rfl | exact Or.inr (Or.inl rfl) | exact Or.inr (Or.inr rfl)) rfl rfl) m_int rfl) (m_tuple (by rfl) (T.n_tuple) (pe_qV (m_var (i := 2) rfl (by first | exact Or.inl rfl | exact Or.inr (Or.inl rfl) | exact Or.inr (Or.inr rfl)) rfl rfl)) (by rfl) (by rfl)) (m_tuple (by rfl) (T.n_tuple) (pe_qV (m_var (i := 5) rfl (by first | exact Or.inl rfl | exact Or.inr (Or.inl rfl) | exact Or.inr (Or.inr rfl)) rfl rfl)) (by rfl) (by rfl))))))))
theorem sc__law_way : FnScope ["_law_chart_here", "_law_place", "_law_way_here"] ["_law_chart_here", "_law_place"] (defScope s__law_way) := ⟨rfl, rfl, rfl, by decide +kernel, rfl, by decide +kernel, by decide +kernel⟩
theorem ok__law_way {f : Addr} {fd : FuncData} (Fn : Fun K "_law_way" "_law_way" s__law_way f fd) (T : Bi mg) :
    FnM P w K mg base C 1 f fd ["_law_chart_here", "_law_place"] F__law_way := by
  refine fn_mk Fn sc__law_way rfl fun cdv A outer s H E hr hgd => ?_
  exact (ms_cons (ms_asg (m_new (m_lst (m_aCons (m_var (i := 1) rfl (by first | exact Or.inl rfl | exact Or.inr (Or.inl rfl) | exact Or.inr (Or.inr rfl)) rfl rfl) m_aNil rfl))) (mg_name (i := 2) sc__law_way.nd rfl (by first | exact Or.inl rfl | exact Or.inr rfl) (by first | exact Or.inl rfl | exact Or.inr rfl)) rfl rfl rfl)
    (ms_cons (ms_while (passes_of rfl) (m_cmpT (om_nin (hu65 hr)) (m_ix (m_var (i := 0) rfl (by first | exact Or.inl rfl | exact Or.inr (Or.inl rfl) | exact Or.inr (Or.inr rfl)) rfl rfl) (m_ix (m_var (i := 2) rfl (by first | exact Or.inl rfl | exact Or.inr (Or.inl rfl) | exact Or.inr (Or.inr rfl)) rfl rfl) (m_neg m_int) (fun _ _ => rfl)) (fun _ _ => rfl)) (m_var (i := 2) rfl (by first | exact Or.inl rfl | exact Or.inr (Or.inl rfl) | exact Or.inr (Or.inr rfl)) rfl rfl) rfl) (ms_one (ms_expr (m_meth mm_append (m_var (i := 2) rfl (by first | exact Or.inl rfl | exact Or.inr (Or.inl rfl) | exact Or.inr (Or.inr rfl)) rfl rfl) (m_aCons (m_ix (m_var (i := 0) rfl (by first | exact Or.inl rfl | exact Or.inr (Or.inl rfl) | exact Or.inr (Or.inr rfl)) rfl rfl) (m_ix (m_var (i := 2) rfl (by first | exact Or.inl rfl | exact Or.inr (Or.inl rfl) | exact Or.inr (Or.inr rfl)) rfl rfl) (m_neg m_int) (fun _ _ => rfl)) (fun _ _ => rfl)) m_aNil rfl) (fun h1 h2 h3 => pe_bm PySem.F.plainAttrs_list PySem.F.slot_list_append PySem.F.type_list_append h1 h2 h3)) rfl)))
    (ms_one (ms_ret (m_tup (m_aCons (m_var (i := 2) rfl (by first | exact Or.inl rfl | exact Or.inr (Or.inl rfl) | exact Or.inr (Or.inr rfl)) rfl rfl) (m_aCons (m_meth mm_index (m_var (i := 2) rfl (by first | exact Or.inl rfl | exact Or.inr (Or.inl rfl) | exact Or.inr (Or.inr rfl)) rfl rfl) (m_aCons (m_ix (m_var (i := 0) rfl (by first | exact Or.inl rfl | exact Or.inr (Or.inl rfl) | exact Or.inr (Or.inr rfl)) rfl rfl) (m_ix (m_var (i := 2) rfl (by first | exact Or.inl rfl | exact Or.inr (Or.inl rfl) | exact Or.inr (Or.inr rfl)) rfl rfl) (m_neg m_int) (fun _ _ => rfl)) (fun _ _ => rfl)) m_aNil rfl) (fun h1 h2 h3 => pe_bm PySem.F.plainAttrs_list PySem.F.slot_list_index PySem.F.type_list_index h1 h2 h3)) m_aNil rfl) rfl))))))
theorem sc__law_rings : FnScope ["_law_chart_here", "_law_found", "_law_x", "_law_ring", "_law_way_here", "_law_at", "_law_first"] ["_law_chart_here"] (defScope s__law_rings) := ⟨rfl, rfl, rfl, by decide +kernel, rfl, by decide +kernel, by decide +kernel⟩
theorem ok__law_rings {f : Addr} {fd : FuncData} (Fn : Fun K "_law_rings" "_law_rings" s__law_rings f fd) (T : Bi mg)
    (c__law_way : CalM P w K mg base C 1 "_law_way" s__law_way ["_law_chart_here", "_law_place"] F__law_way) :
    FnM P w K mg base C 2 f fd ["_law_chart_here"] F__law_rings := by
  refine fn_mk Fn sc__law_rings rfl fun cdv A outer s H E hr hgd => ?_
  exact (ms_cons (ms_asg (m_new (m_lst m_aNil)) (mg_name (i := 1) sc__law_rings.nd rfl (by first | exact Or.inl rfl | exact Or.inr rfl) (by first | exact Or.inl rfl | exact Or.inr rfl)) rfl rfl rfl)
    (ms_cons (ms_for (passes_of rfl) rfl (mi_rg1 (by rfl) (T.n_range) (m_len (by rfl) (T.n_len) (pe_qV (m_var (i := 0) rfl (by first | exact Or.inl rfl | exact Or.inr (Or.inl rfl) | exact Or.inr (Or.inr rfl)) rfl rfl)) (by rfl) (by rfl)) (by rfl) (by rfl)) (mg_name (i := 2) sc__law_rings.nd rfl (by first | exact Or.inl rfl | exact Or.inr rfl) (by first | exact Or.inl rfl | exact Or.inr rfl)) (ms_cons (ms_asg (g_call c__law_way hr hgd (takes_of rfl rfl rfl rfl) (fun _ _ F1 => bi__law_way F1) (m_aCons (m_var (i := 0) rfl (by first | exact Or.inl rfl | exact Or.inr (Or.inl rfl) | exact Or.inr (Or.inr rfl)) rfl rfl) (m_aCons (m_var (i := 2) rfl (by first | exact Or.inl rfl | exact Or.inr (Or.inl rfl) | exact Or.inr (Or.inr rfl)) rfl rfl) m_aNil rfl) rfl)) (mg_tup rfl (mgs_cons (mg_name (i := 4) sc__law_rings.nd rfl (by first | exact Or.inl rfl | exact Or.inr rfl) (by first | exact Or.inl rfl | exact Or.inr rfl)) (mgs_cons (mg_name (i := 5) sc__law_rings.nd rfl (by first | exact Or.inl rfl | exact Or.inr rfl) (by first | exact Or.inl rfl | exact Or.inr rfl)) mgs_nil rfl) rfl) rfl rfl) rfl rfl rfl)
    (ms_cons (ms_asg (m_new (m_cutL (m_var (i := 4) rfl (by first | exact Or.inl rfl | exact Or.inr (Or.inl rfl) | exact Or.inr (Or.inr rfl)) rfl rfl) (m_oS (m_var (i := 5) rfl (by first | exact Or.inl rfl | exact Or.inr (Or.inl rfl) | exact Or.inr (Or.inr rfl)) rfl rfl)) m_oN)) (mg_name (i := 3) sc__law_rings.nd rfl (by first | exact Or.inl rfl | exact Or.inr rfl) (by first | exact Or.inl rfl | exact Or.inr rfl)) rfl rfl rfl)
    (ms_one (ms_if (m_cmpT (om_eq (hu64 hr)) (m_var (i := 2) rfl (by first | exact Or.inl rfl | exact Or.inr (Or.inl rfl) | exact Or.inr (Or.inr rfl)) rfl rfl) (m_min (by rfl) (by rfl) (T.n_min) (pe_lV (m_var (i := 3) rfl (by first | exact Or.inl rfl | exact Or.inr (Or.inl rfl) | exact Or.inr (Or.inr rfl)) rfl rfl)) (by rfl) (by rfl)) rfl) (ms_cons (ms_asg (m_meth mm_index (m_var (i := 3) rfl (by first | exact Or.inl rfl | exact Or.inr (Or.inl rfl) | exact Or.inr (Or.inr rfl)) rfl rfl) (m_aCons (m_var (i := 2) rfl (by first | exact Or.inl rfl | exact Or.inr (Or.inl rfl) | exact Or.inr (Or.inr rfl)) rfl rfl) m_aNil rfl) (fun h1 h2 h3 => pe_bm PySem.F.plainAttrs_list PySem.F.slot_list_index PySem.F.type_list_index h1 h2 h3)) (mg_name (i := 6) sc__law_rings.nd rfl (by first | exact Or.inl rfl | exact Or.inr rfl) (by first | exact Or.inl rfl | exact Or.inr rfl)) rfl rfl rfl)
    (ms_one (ms_expr (m_meth mm_append (m_var (i := 1) rfl (by first | exact Or.inl rfl | exact Or.inr (Or.inl rfl) | exact Or.inr (Or.inr rfl)) rfl rfl) (m_aCons (m_tuple (by rfl) (T.n_tuple) (pe_qL (m_cat (m_cutL (m_var (i := 3) rfl (by first | exact Or.inl rfl | exact Or.inr (Or.inl rfl) | exact Or.inr (Or.inr rfl)) rfl rfl) (m_oS (m_var (i := 6) rfl (by first | exact Or.inl rfl | exact Or.inr (Or.inl rfl) | exact Or.inr (Or.inr rfl)) rfl rfl)) m_oN) (m_cutL (m_var (i := 3) rfl (by first | exact Or.inl rfl | exact Or.inr (Or.inl rfl) | exact Or.inr (Or.inr rfl)) rfl rfl) m_oN (m_oS (m_var (i := 6) rfl (by first | exact Or.inl rfl | exact Or.inr (Or.inl rfl) | exact Or.inr (Or.inr rfl)) rfl rfl))))) (by rfl) (by rfl)) m_aNil rfl) (fun h1 h2 h3 => pe_bm PySem.F.plainAttrs_list PySem.F.slot_list_append PySem.F.type_list_append h1 h2 h3)) rfl))) ms_nil)))) (fun h1 h2 h3 h4 h5 => ps_for h1 h2 h3 h4 h5))
    (ms_one (ms_ret (m_var (i := 1) rfl (by first | exact Or.inl rfl | exact Or.inr (Or.inl rfl) | exact Or.inr (Or.inr rfl)) rfl rfl)))))
theorem sc_is_integer : FnScope ["value"] ["value"] (defScope s_is_integer) := ⟨rfl, rfl, rfl, by decide +kernel, rfl, by decide +kernel, by decide +kernel⟩
theorem ok_is_integer {f : Addr} {fd : FuncData} (Fn : Fun K "is_integer" "is_integer" s_is_integer f fd) (T : Bi mg) :
    FnM P w K mg base C 1 f fd ["value"] F_is_integer := by
  refine fn_mk Fn sc_is_integer rfl fun cdv A outer s H E hr hgd => ?_
  exact (ms_one (ms_ret (m_and (m_isi (T := "int") (by rfl) (T.n_isinstance) (m_var (i := 0) rfl (by first | exact Or.inl rfl | exact Or.inr (Or.inl rfl) | exact Or.inr (Or.inr rfl)) rfl rfl) (by rfl) (T.n_int) (by decide +kernel) (by decide +kernel) (by decide +kernel) (by rfl) (by rfl) (by rfl)) (pe_one (m_not (m_isi (T := "bool") (by rfl) (T.n_isinstance) (m_var (i := 0) rfl (by first | exact Or.inl rfl | exact Or.inr (Or.inl rfl) | exact Or.inr (Or.inr rfl)) rfl rfl) (by rfl) (T.n_bool) (by decide +kernel) (by decide +kernel) (by decide +kernel) (by rfl) (by rfl) (by rfl)))))))
theorem sc_is_between : FnScope ["low", "value", "high"] ["low", "value", "high"] (defScope s_is_between) := ⟨rfl, rfl, rfl, by decide +kernel, rfl, by decide +kernel, by decide +kernel⟩
theorem ok_is_between {f : Addr} {fd : FuncData} (Fn : Fun K "is_between" "is_between" s_is_between f fd) (T : Bi mg)
    (c_is_integer : CalM P w K mg base C 1 "is_integer" s_is_integer ["value"] F_is_integer) :
    FnM P w K mg base C 2 f fd ["low", "value", "high"] F_is_between := by
  refine fn_mk Fn sc_is_between rfl fun cdv A outer s H E hr hgd => ?_
  exact (ms_one (ms_ret (m_and (g_call c_is_integer hr hgd (takes_of rfl rfl rfl rfl) (fun _ _ F1 => bi_is_integer F1) (m_aCons (m_var (i := 1) rfl (by first | exact Or.inl rfl | exact Or.inr (Or.inl rfl) | exact Or.inr (Or.inr rfl)) rfl rfl) m_aNil rfl)) (pe_one (m_chain om_le om_le (m_var (i := 0) rfl (by first | exact Or.inl rfl | exact Or.inr (Or.inl rfl) | exact Or.inr (Or.inr rfl)) rfl rfl) (m_var (i := 1) rfl (by first | exact Or.inl rfl | exact Or.inr (Or.inl rfl) | exact Or.inr (Or.inr rfl)) rfl rfl) (m_var (i := 2) rfl (by first | exact Or.inl rfl | exact Or.inr (Or.inl rfl) | exact Or.inr (Or.inr rfl)) rfl rfl) rfl)))))
theorem sc_is_chart : FnScope ["value", "place"] ["value"] (defScope s_is_chart) := ⟨rfl, rfl, rfl, by decide +kernel, rfl, by decide +kernel, by decide +kernel⟩
theorem ok_is_chart {f : Addr} {fd : FuncData} (Fn : Fun K "is_chart" "is_chart" s_is_chart f fd) (T : Bi mg)
    (c_is_between : CalM P w K mg base C 2 "is_between" s_is_between ["low", "value", "high"] F_is_between) :
    FnM P w K mg base C 3 f fd ["value"] F_is_chart := by
  refine fn_mk Fn sc_is_chart rfl fun cdv A outer s H E hr hgd => ?_
  exact (ms_cons (ms_if (PW.pt (m_orT (m_notT (m_valT (m_isi (T := "tuple") (by rfl) (T.n_isinstance) (m_var (i := 0) rfl (by first | exact Or.inl rfl | exact Or.inr (Or.inl rfl) | exact Or.inr (Or.inr rfl)) rfl rfl) (by rfl) (T.n_tuple) (by decide +kernel) (by decide +kernel) (by decide +kernel) (by rfl) (by rfl) (by rfl)) (fun _ => rfl))) (pw_or1 (m_notT (m_chainT om_le om_le m_int (m_len (by rfl) (T.n_len) (pe_qV (m_var (i := 0) rfl (by first | exact Or.inl rfl | exact Or.inr (Or.inl rfl) | exact Or.inr (Or.inr rfl)) rfl rfl)) (by rfl) (by rfl)) (m_gint rfl T.c_MOST_PLACES) rfl))))) (ms_one (ms_ret m_bl)) ms_nil)
    (ms_one (ms_ret (m_all (by rfl) (by rfl) (T.n_all) (pe_lL (m_lcE rfl sc_is_chart.nd (mi_tup (m_var (i := 0) rfl (by first | exact Or.inl rfl | exact Or.inr (Or.inl rfl) | exact Or.inr (Or.inr rfl)) rfl rfl)) (blk_of ["value", "place"] (defScope s_is_chart) [("place", 1)] rfl rfl ⟨rfl, by decide +kernel, by decide +kernel, by decide +kernel, by decide +kernel⟩) (by decide) (fun _ _ _ _ _ => (mg_name (i := 1) sc_is_chart.nd rfl (by first | exact Or.inl rfl | exact Or.inr rfl) (by first | exact Or.inl rfl | exact Or.inr rfl))) (fun _ _ _ _ _ => mts_nil) (fun _ _ _ _ _ => (g_call c_is_between hr hgd takes0 (fun _ _ F1 => bi_is_between F1) (m_aCons m_int (m_aCons (m_var (i := 1) rfl (by first | exact Or.inl rfl | exact Or.inr (Or.inl rfl) | exact Or.inr (Or.inr rfl)) rfl rfl) (m_aCons (m_op om_sub (m_len (by rfl) (T.n_len) (pe_qV (m_var (i := 0) rfl (by first | exact Or.inl rfl | exact Or.inr (Or.inl rfl) | exact Or.inr (Or.inr rfl)) rfl rfl)) (by rfl) (by rfl)) m_int) m_aNil rfl) rfl) rfl))) (fun _ => rfl))) (by rfl) (by rfl)))))
theorem sc_check_chart : FnScope ["value"] ["value"] (defScope s_check_chart) := ⟨rfl, rfl, rfl, by decide +kernel, rfl, by decide +kernel, by decide +kernel⟩
theorem ok_check_chart {f : Addr} {fd : FuncData} (Fn : Fun K "check_chart" "check_chart" s_check_chart f fd) (T : Bi mg)
    (c_is_chart : CalM P w K mg base C 3 "is_chart" s_is_chart ["value"] F_is_chart) :
    FnM P w K mg base C 4 f fd ["value"] F_check_chart := by
  refine fn_mk Fn sc_check_chart rfl fun cdv A outer s H E hr hgd => ?_
  exact (ms_one (ms_if (m_notT (m_valT (g_call c_is_chart hr hgd (takes_of rfl rfl rfl rfl) (fun _ _ F1 => bi_is_chart F1) (m_aCons (m_var (i := 0) rfl (by first | exact Or.inl rfl | exact Or.inr (Or.inl rfl) | exact Or.inr (Or.inr rfl)) rfl rfl) m_aNil rfl)) (fun _ => rfl))) (ms_one ms_bad) ms_nil))
theorem sc_image_of : FnScope ["chart"] ["chart"] (defScope s_image_of) := ⟨rfl, rfl, rfl, by decide +kernel, rfl, by decide +kernel, by decide +kernel⟩
theorem ok_image_of {f : Addr} {fd : FuncData} (Fn : Fun K "image_of" "image_of" s_image_of f fd) (T : Bi mg) :
    FnM P w K mg base C 1 f fd ["chart"] F_image_of := by
  refine fn_mk Fn sc_image_of rfl fun cdv A outer s H E hr hgd => ?_
  exact (ms_one (ms_ret (m_tuple (by rfl) (T.n_tuple) (pe_qL (m_sortSet (by rfl) (by rfl) (T.n_sorted) (by rfl) (T.n_set) (m_var (i := 0) rfl (by first | exact Or.inl rfl | exact Or.inr (Or.inl rfl) | exact Or.inr (Or.inr rfl)) rfl rfl) (by rfl) (by rfl) (by rfl) (by rfl))) (by rfl) (by rfl))))
theorem sc_behind_of : FnScope ["chart", "other", "place"] ["chart", "other"] (defScope s_behind_of) := ⟨rfl, rfl, rfl, by decide +kernel, rfl, by decide +kernel, by decide +kernel⟩
theorem ok_behind_of {f : Addr} {fd : FuncData} (Fn : Fun K "behind_of" "behind_of" s_behind_of f fd) (T : Bi mg) :
    FnM P w K mg base C 1 f fd ["chart", "other"] F_behind_of := by
  refine fn_mk Fn sc_behind_of rfl fun cdv A outer s H E hr hgd => ?_
  exact (ms_one (ms_ret (m_tuple (by rfl) (T.n_tuple) (pe_qL (m_lcE rfl sc_behind_of.nd (mi_tup (m_var (i := 0) rfl (by first | exact Or.inl rfl | exact Or.inr (Or.inl rfl) | exact Or.inr (Or.inr rfl)) rfl rfl)) (blk_of ["chart", "other", "place"] (defScope s_behind_of) [("place", 2)] rfl rfl ⟨rfl, by decide +kernel, by decide +kernel, by decide +kernel, by decide +kernel⟩) (by decide) (fun _ _ _ _ _ => (mg_name (i := 2) sc_behind_of.nd rfl (by first | exact Or.inl rfl | exact Or.inr rfl) (by first | exact Or.inl rfl | exact Or.inr rfl))) (fun _ _ _ _ _ => mts_nil) (fun _ _ _ _ _ => (m_ix (m_var (i := 1) rfl (by first | exact Or.inl rfl | exact Or.inr (Or.inl rfl) | exact Or.inr (Or.inr rfl)) rfl rfl) (m_var (i := 2) rfl (by first | exact Or.inl rfl | exact Or.inr (Or.inl rfl) | exact Or.inr (Or.inr rfl)) rfl rfl) (fun _ _ => rfl))) (fun _ => rfl))) (by rfl) (by rfl))))
theorem sc_step_of : FnScope ["chart", "number", "found", "power"] ["chart", "number"] (defScope s_step_of) := ⟨rfl, rfl, rfl, by decide +kernel, rfl, by decide +kernel, by decide +kernel⟩
theorem ok_step_of {f : Addr} {fd : FuncData} (Fn : Fun K "step_of" "step_of" s_step_of f fd) (T : Bi mg)
    (c_behind_of : CalM P w K mg base C 1 "behind_of" s_behind_of ["chart", "other"] F_behind_of) :
    FnM P w K mg base C 2 f fd ["chart", "number"] F_step_of := by
  refine fn_mk Fn sc_step_of rfl fun cdv A outer s H E hr hgd => ?_
  exact (ms_cons (ms_asg (m_tupleRg (by rfl) (by rfl) (T.n_tuple) (by rfl) (T.n_range) (m_len (by rfl) (T.n_len) (pe_qV (m_var (i := 0) rfl (by first | exact Or.inl rfl | exact Or.inr (Or.inl rfl) | exact Or.inr (Or.inr rfl)) rfl rfl)) (by rfl) (by rfl)) (by rfl) (by rfl)) (mg_name (i := 2) sc_step_of.nd rfl (by first | exact Or.inl rfl | exact Or.inr rfl) (by first | exact Or.inl rfl | exact Or.inr rfl)) rfl rfl rfl)
    (ms_cons (ms_asg (m_var (i := 0) rfl (by first | exact Or.inl rfl | exact Or.inr (Or.inl rfl) | exact Or.inr (Or.inr rfl)) rfl rfl) (mg_name (i := 3) sc_step_of.nd rfl (by first | exact Or.inl rfl | exact Or.inr rfl) (by first | exact Or.inl rfl | exact Or.inr rfl)) rfl rfl rfl)
    (ms_cons (ms_while (passes_of rfl) (m_cmpT om_gt (m_var (i := 1) rfl (by first | exact Or.inl rfl | exact Or.inr (Or.inl rfl) | exact Or.inr (Or.inr rfl)) rfl rfl) m_int rfl) (ms_cons (ms_if (m_cmpT (om_eq (hu64 hr)) (m_op om_mod (m_var (i := 1) rfl (by first | exact Or.inl rfl | exact Or.inr (Or.inl rfl) | exact Or.inr (Or.inr rfl)) rfl rfl) m_int) m_int rfl) (ms_one (ms_asg (g_call c_behind_of hr hgd (takes_of rfl rfl rfl rfl) (fun _ _ F1 => bi_behind_of F1) (m_aCons (m_var (i := 2) rfl (by first | exact Or.inl rfl | exact Or.inr (Or.inl rfl) | exact Or.inr (Or.inr rfl)) rfl rfl) (m_aCons (m_var (i := 3) rfl (by first | exact Or.inl rfl | exact Or.inr (Or.inl rfl) | exact Or.inr (Or.inr rfl)) rfl rfl) m_aNil rfl) rfl)) (mg_name (i := 2) sc_step_of.nd rfl (by first | exact Or.inl rfl | exact Or.inr rfl) (by first | exact Or.inl rfl | exact Or.inr rfl)) rfl rfl rfl)) ms_nil)
    (ms_cons (ms_asg (g_call c_behind_of hr hgd (takes_of rfl rfl rfl rfl) (fun _ _ F1 => bi_behind_of F1) (m_aCons (m_var (i := 3) rfl (by first | exact Or.inl rfl | exact Or.inr (Or.inl rfl) | exact Or.inr (Or.inr rfl)) rfl rfl) (m_aCons (m_var (i := 3) rfl (by first | exact Or.inl rfl | exact Or.inr (Or.inl rfl) | exact Or.inr (Or.inr rfl)) rfl rfl) m_aNil rfl) rfl)) (mg_name (i := 3) sc_step_of.nd rfl (by first | exact Or.inl rfl | exact Or.inr rfl) (by first | exact Or.inl rfl | exact Or.inr rfl)) rfl rfl rfl)
    (ms_one (ms_aug (i := 1) sc_step_of.nd rfl (by first | exact Or.inl rfl | exact Or.inr rfl) m_int im_div (Or.inl rfl))))))
    (ms_one (ms_ret (m_var (i := 2) rfl (by first | exact Or.inl rfl | exact Or.inr (Or.inl rfl) | exact Or.inr (Or.inr rfl)) rfl rfl))))))
theorem sc_on_rings_of : FnScope ["chart"] ["chart"] (defScope s_on_rings_of) := ⟨rfl, rfl, rfl, by decide +kernel, rfl, by decide +kernel, by decide +kernel⟩
theorem ok_on_rings_of {f : Addr} {fd : FuncData} (Fn : Fun K "on_rings_of" "on_rings_of" s_on_rings_of f fd) (T : Bi mg)
    (c_image_of : CalM P w K mg base C 1 "image_of" s_image_of ["chart"] F_image_of)
    (c_step_of : CalM P w K mg base C 2 "step_of" s_step_of ["chart", "number"] F_step_of) :
    FnM P w K mg base C 3 f fd ["chart"] F_on_rings_of := by
  refine fn_mk Fn sc_on_rings_of rfl fun cdv A outer s H E hr hgd => ?_
  exact (ms_one (ms_ret (g_call c_image_of hr hgd (takes_of rfl rfl rfl rfl) (fun _ _ F1 => bi_image_of F1) (m_aCons (g_call c_step_of hr hgd (takes_of rfl rfl rfl rfl) (fun _ _ F1 => bi_step_of F1) (m_aCons (m_var (i := 0) rfl (by first | exact Or.inl rfl | exact Or.inr (Or.inl rfl) | exact Or.inr (Or.inr rfl)) rfl rfl) (m_aCons (m_len (by rfl) (T.n_len) (pe_qV (m_var (i := 0) rfl (by first | exact Or.inl rfl | exact Or.inr (Or.inl rfl) | exact Or.inr (Or.inr rfl)) rfl rfl)) (by rfl) (by rfl)) m_aNil rfl) rfl)) m_aNil rfl))))
theorem sc_way_of : FnScope ["chart", "place", "found"] ["chart", "place"] (defScope s_way_of) := ⟨rfl, rfl, rfl, by decide +kernel, rfl, by decide +kernel, by decide +kernel⟩
theorem ok_way_of {f : Addr} {fd : FuncData} (Fn : Fun K "way_of" "way_of" s_way_of f fd) (T : Bi mg) :
    FnM P w K mg base C 1 f fd ["chart", "place"] F_way_of := by
  refine fn_mk Fn sc_way_of rfl fun cdv A outer s H E hr hgd => ?_
  exact (ms_cons (ms_asg (m_new (m_lst (m_aCons (m_var (i := 1) rfl (by first | exact Or.inl rfl | exact Or.inr (Or.inl rfl) | exact Or.inr (Or.inr rfl)) rfl rfl) m_aNil rfl))) (mg_name (i := 2) sc_way_of.nd rfl (by first | exact Or.inl rfl | exact Or.inr rfl) (by first | exact Or.inl rfl | exact Or.inr rfl)) rfl rfl rfl)
    (ms_cons (ms_while (passes_of rfl) (m_cmpT (om_nin (hu65 hr)) (m_ix (m_var (i := 0) rfl (by first | exact Or.inl rfl | exact Or.inr (Or.inl rfl) | exact Or.inr (Or.inr rfl)) rfl rfl) (m_ix (m_var (i := 2) rfl (by first | exact Or.inl rfl | exact Or.inr (Or.inl rfl) | exact Or.inr (Or.inr rfl)) rfl rfl) (m_neg m_int) (fun _ _ => rfl)) (fun _ _ => rfl)) (m_var (i := 2) rfl (by first | exact Or.inl rfl | exact Or.inr (Or.inl rfl) | exact Or.inr (Or.inr rfl)) rfl rfl) rfl) (ms_one (ms_expr (m_meth mm_append (m_var (i := 2) rfl (by first | exact Or.inl rfl | exact Or.inr (Or.inl rfl) | exact Or.inr (Or.inr rfl)) rfl rfl) (m_aCons (m_ix (m_var (i := 0) rfl (by first | exact Or.inl rfl | exact Or.inr (Or.inl rfl) | exact Or.inr (Or.inr rfl)) rfl rfl) (m_ix (m_var (i := 2) rfl (by first | exact Or.inl rfl | exact Or.inr (Or.inl rfl) | exact Or.inr (Or.inr rfl)) rfl rfl) (m_neg m_int) (fun _ _ => rfl)) (fun _ _ => rfl)) m_aNil rfl) (fun h1 h2 h3 => pe_bm PySem.F.plainAttrs_list PySem.F.slot_list_append PySem.F.type_list_append h1 h2 h3)) rfl)))
    (ms_one (ms_ret (m_tuple (by rfl) (T.n_tuple) (pe_qV (m_var (i := 2) rfl (by first | exact Or.inl rfl | exact Or.inr (Or.inl rfl) | exact Or.inr (Or.inr rfl)) rfl rfl)) (by rfl) (by rfl))))))
theorem sc_depths_of : FnScope ["chart", "there", "place", "x"] ["chart"] (defScope s_depths_of) := ⟨rfl, rfl, rfl, by decide +kernel, rfl, by decide +kernel, by decide +kernel⟩
theorem ok_depths_of {f : Addr} {fd : FuncData} (Fn : Fun K "depths_of" "depths_of" s_depths_of f fd) (T : Bi mg)
    (c_on_rings_of : CalM P w K mg base C 3 "on_rings_of" s_on_rings_of ["chart"] F_on_rings_of)
    (c_way_of : CalM P w K mg base C 1 "way_of" s_way_of ["chart", "place"] F_way_of) :
    FnM P w K mg base C 4 f fd ["chart"] F_depths_of := by
  refine fn_mk Fn sc_depths_of rfl fun cdv A outer s H E hr hgd => ?_
  exact (ms_cons (ms_asg (g_call c_on_rings_of hr hgd (takes_of rfl rfl rfl rfl) (fun _ _ F1 => bi_on_rings_of F1) (m_aCons (m_var (i := 0) rfl (by first | exact Or.inl rfl | exact Or.inr (Or.inl rfl) | exact Or.inr (Or.inr rfl)) rfl rfl) m_aNil rfl)) (mg_name (i := 1) sc_depths_of.nd rfl (by first | exact Or.inl rfl | exact Or.inr rfl) (by first | exact Or.inl rfl | exact Or.inr rfl)) rfl rfl rfl)
    (ms_one (ms_ret (m_tuple (by rfl) (T.n_tuple) (pe_qL (m_lcE rfl sc_depths_of.nd (mi_rg1 (by rfl) (T.n_range) (m_len (by rfl) (T.n_len) (pe_qV (m_var (i := 0) rfl (by first | exact Or.inl rfl | exact Or.inr (Or.inl rfl) | exact Or.inr (Or.inr rfl)) rfl rfl)) (by rfl) (by rfl)) (by rfl) (by rfl)) (blk_of ["chart", "there", "place", "x"] (defScope s_depths_of) [("place", 2)] rfl rfl ⟨rfl, by decide +kernel, by decide +kernel, by decide +kernel, by decide +kernel⟩) (by decide) (fun _ _ _ _ _ => (mg_name (i := 2) sc_depths_of.nd rfl (by first | exact Or.inl rfl | exact Or.inr rfl) (by first | exact Or.inl rfl | exact Or.inr rfl))) (fun _ _ _ _ _ => mts_nil) (fun _ _ _ _ _ => (m_gc (m_meth mm_index (m_new (m_lcE rfl sc_depths_of.nd (mi_tup (g_call c_way_of hr hgd takes0 (fun _ _ F1 => bi_way_of F1) (m_aCons (m_var (i := 0) rfl (by first | exact Or.inl rfl | exact Or.inr (Or.inl rfl) | exact Or.inr (Or.inr rfl)) rfl rfl) (m_aCons (m_var (i := 2) rfl (by first | exact Or.inl rfl | exact Or.inr (Or.inl rfl) | exact Or.inr (Or.inr rfl)) rfl rfl) m_aNil rfl) rfl))) (blk_of2 ["chart", "there", "place", "x"] [("x", 3)] rfl ⟨rfl, by decide +kernel, by decide +kernel, by decide +kernel, by decide +kernel⟩) (by decide) (fun _ _ _ _ _ => (mg_name (i := 3) sc_depths_of.nd rfl (by first | exact Or.inl rfl | exact Or.inr rfl) (by first | exact Or.inl rfl | exact Or.inr rfl))) (fun _ _ _ _ _ => mts_nil) (fun _ _ _ _ _ => (m_cmp (om_in (hu65 hr)) (m_var (i := 3) rfl (by first | exact Or.inl rfl | exact Or.inr (Or.inl rfl) | exact Or.inr (Or.inr rfl)) rfl rfl) (m_var (i := 1) rfl (by first | exact Or.inl rfl | exact Or.inr (Or.inl rfl) | exact Or.inr (Or.inr rfl)) rfl rfl) rfl)) (fun _ => rfl))) (m_aCons m_bl m_aNil rfl) (fun h1 h2 h3 => pe_bm PySem.F.plainAttrs_list PySem.F.slot_list_index PySem.F.type_list_index h1 h2 h3)))) (fun _ => rfl))) (by rfl) (by rfl)))))
theorem sc_depths : FnScope ["chart"] ["chart"] (defScope s_depths) := ⟨rfl, rfl, rfl, by decide +kernel, rfl, by decide +kernel, by decide +kernel⟩
theorem ok_depths {f : Addr} {fd : FuncData} (Fn : Fun K "depths" "depths" s_depths f fd) (T : Bi mg)
    (c_check_chart : CalM P w K mg base C 4 "check_chart" s_check_chart ["value"] F_check_chart)
    (c_depths_of : CalM P w K mg base C 4 "depths_of" s_depths_of ["chart"] F_depths_of) :
    FnM P w K mg base C 5 f fd ["chart"] F_depths := by
  refine fn_mk Fn sc_depths rfl fun cdv A outer s H E hr hgd => ?_
  exact (ms_cons (ms_expr (g_call c_check_chart hr hgd (takes_of rfl rfl rfl rfl) (fun _ _ F1 => bi_check_chart F1) (m_aCons (m_var (i := 0) rfl (by first | exact Or.inl rfl | exact Or.inr (Or.inl rfl) | exact Or.inr (Or.inr rfl)) rfl rfl) m_aNil rfl)) rfl)
    (ms_one (ms_ret (g_call c_depths_of hr hgd (takes_of rfl rfl rfl rfl) (fun _ _ F1 => bi_depths_of F1) (m_aCons (m_var (i := 0) rfl (by first | exact Or.inl rfl | exact Or.inr (Or.inl rfl) | exact Or.inr (Or.inr rfl)) rfl rfl) m_aNil rfl)))))
theorem sc__law_least : FnScope ["_law_lengths", "_law_number_here", "_law_length"] ["_law_lengths"] (defScope s__law_least) := ⟨rfl, rfl, rfl, by decide +kernel, rfl, by decide +kernel, by decide +kernel⟩
theorem ok__law_least {f : Addr} {fd : FuncData} (Fn : Fun K "_law_least" "_law_least" s__law_least f fd) (T : Bi mg) :
    FnM P w K mg base C 1 f fd ["_law_lengths"] F__law_least := by
  refine fn_mk Fn sc__law_least rfl fun cdv A outer s H E hr hgd => ?_
  exact (ms_cons (ms_asg m_int (mg_name (i := 1) sc__law_least.nd rfl (by first | exact Or.inl rfl | exact Or.inr rfl) (by first | exact Or.inl rfl | exact Or.inr rfl)) rfl rfl rfl)
    (ms_cons (ms_while (passes_of rfl) (m_gcT (m_cmpT (om_ne (hu64 hr)) (m_new (m_lcE rfl sc__law_least.nd (mi_lstV (m_var (i := 0) rfl (by first | exact Or.inl rfl | exact Or.inr (Or.inl rfl) | exact Or.inr (Or.inr rfl)) rfl rfl)) (blk_of ["_law_lengths", "_law_number_here", "_law_length"] (defScope s__law_least) [("_law_length", 2)] rfl rfl ⟨rfl, by decide +kernel, by decide +kernel, by decide +kernel, by decide +kernel⟩) (by decide) (fun _ _ _ _ _ => (mg_name (i := 2) sc__law_least.nd rfl (by first | exact Or.inl rfl | exact Or.inr rfl) (by first | exact Or.inl rfl | exact Or.inr rfl))) (fun _ _ _ _ _ => (pts_one (m_cmpT om_gt (m_op om_mod (m_int1 (by rfl) (T.n_int) (m_var (i := 1) rfl (by first | exact Or.inl rfl | exact Or.inr (Or.inl rfl) | exact Or.inr (Or.inr rfl)) rfl rfl) (by rfl) (by rfl)) (m_var (i := 2) rfl (by first | exact Or.inl rfl | exact Or.inr (Or.inl rfl) | exact Or.inr (Or.inr rfl)) rfl rfl)) m_int rfl))) (fun _ _ _ _ _ => (m_var (i := 2) rfl (by first | exact Or.inl rfl | exact Or.inr (Or.inl rfl) | exact Or.inr (Or.inr rfl)) rfl rfl)) (fun _ => rfl))) (m_new (m_lst m_aNil)) rfl)) (ms_one (ms_asg (m_op om_add (m_var (i := 1) rfl (by first | exact Or.inl rfl | exact Or.inr (Or.inl rfl) | exact Or.inr (Or.inr rfl)) rfl rfl) m_int) (mg_name (i := 1) sc__law_least.nd rfl (by first | exact Or.inl rfl | exact Or.inr rfl) (by first | exact Or.inl rfl | exact Or.inr rfl)) rfl rfl rfl)))
    (ms_one (ms_ret (m_var (i := 1) rfl (by first | exact Or.inl rfl | exact Or.inr (Or.inl rfl) | exact Or.inr (Or.inr rfl)) rfl rfl)))))
theorem sc_height_of : FnScope ["chart"] ["chart"] (defScope s_height_of) := ⟨rfl, rfl, rfl, by decide +kernel, rfl, by decide +kernel, by decide +kernel⟩
theorem ok_height_of {f : Addr} {fd : FuncData} (Fn : Fun K "height_of" "height_of" s_height_of f fd) (T : Bi mg)
    (c_depths_of : CalM P w K mg base C 4 "depths_of" s_depths_of ["chart"] F_depths_of) :
    FnM P w K mg base C 5 f fd ["chart"] F_height_of := by
  refine fn_mk Fn sc_height_of rfl fun cdv A outer s H E hr hgd => ?_
  exact (ms_one (ms_ret (m_maxT (hu64 hr) (by rfl) (by rfl) (T.n_max) (g_call c_depths_of hr hgd (takes_of rfl rfl rfl rfl) (fun _ _ F1 => bi_depths_of F1) (m_aCons (m_var (i := 0) rfl (by first | exact Or.inl rfl | exact Or.inr (Or.inl rfl) | exact Or.inr (Or.inr rfl)) rfl rfl) m_aNil rfl)) (by rfl) (by rfl))))
theorem sc_height : FnScope ["chart"] ["chart"] (defScope s_height) := ⟨rfl, rfl, rfl, by decide +kernel, rfl, by decide +kernel, by decide +kernel⟩
theorem ok_height {f : Addr} {fd : FuncData} (Fn : Fun K "height" "height" s_height f fd) (T : Bi mg)
    (c_check_chart : CalM P w K mg base C 4 "check_chart" s_check_chart ["value"] F_check_chart)
    (c_height_of : CalM P w K mg base C 5 "height_of" s_height_of ["chart"] F_height_of) :
    FnM P w K mg base C 6 f fd ["chart"] F_height := by
  refine fn_mk Fn sc_height rfl fun cdv A outer s H E hr hgd => ?_
  exact (ms_cons (ms_expr (g_call c_check_chart hr hgd (takes_of rfl rfl rfl rfl) (fun _ _ F1 => bi_check_chart F1) (m_aCons (m_var (i := 0) rfl (by first | exact Or.inl rfl | exact Or.inr (Or.inl rfl) | exact Or.inr (Or.inr rfl)) rfl rfl) m_aNil rfl)) rfl)
    (ms_one (ms_ret (g_call c_height_of hr hgd (takes_of rfl rfl rfl rfl) (fun _ _ F1 => bi_height_of F1) (m_aCons (m_var (i := 0) rfl (by first | exact Or.inl rfl | exact Or.inr (Or.inl rfl) | exact Or.inr (Or.inr rfl)) rfl rfl) m_aNil rfl)))))
theorem sc_ring_at : FnScope ["chart", "place", "row", "at"] ["chart", "place"] (defScope s_ring_at) := ⟨rfl, rfl, rfl, by decide +kernel, rfl, by decide +kernel, by decide +kernel⟩
theorem ok_ring_at {f : Addr} {fd : FuncData} (Fn : Fun K "ring_at" "ring_at" s_ring_at f fd) (T : Bi mg)
    (c_way_of : CalM P w K mg base C 1 "way_of" s_way_of ["chart", "place"] F_way_of) :
    FnM P w K mg base C 2 f fd ["chart", "place"] F_ring_at := by
  refine fn_mk Fn sc_ring_at rfl fun cdv A outer s H E hr hgd => ?_
  exact (ms_cons (ms_asg (g_call c_way_of hr hgd (takes_of rfl rfl rfl rfl) (fun _ _ F1 => bi_way_of F1) (m_aCons (m_var (i := 0) rfl (by first | exact Or.inl rfl | exact Or.inr (Or.inl rfl) | exact Or.inr (Or.inr rfl)) rfl rfl) (m_aCons (m_var (i := 1) rfl (by first | exact Or.inl rfl | exact Or.inr (Or.inl rfl) | exact Or.inr (Or.inr rfl)) rfl rfl) m_aNil rfl) rfl)) (mg_name (i := 2) sc_ring_at.nd rfl (by first | exact Or.inl rfl | exact Or.inr rfl) (by first | exact Or.inl rfl | exact Or.inr rfl)) rfl rfl rfl)
    (ms_cons (ms_asg (m_tix (m_var (i := 2) rfl (by first | exact Or.inl rfl | exact Or.inr (Or.inl rfl) | exact Or.inr (Or.inr rfl)) rfl rfl) (m_aCons (m_minT (hu64 hr) (by rfl) (by rfl) (T.n_min) (m_var (i := 2) rfl (by first | exact Or.inl rfl | exact Or.inr (Or.inl rfl) | exact Or.inr (Or.inr rfl)) rfl rfl) (by rfl) (by rfl)) m_aNil rfl) (fun h1 h2 h3 => pe_bmT PySem.F.plainAttrs_tuple PySem.F.slot_tuple_index PySem.F.type_tuple_index h1 h2 h3)) (mg_name (i := 3) sc_ring_at.nd rfl (by first | exact Or.inl rfl | exact Or.inr rfl) (by first | exact Or.inl rfl | exact Or.inr rfl)) rfl rfl rfl)
    (ms_one (ms_ret (m_op om_add (m_cutT (m_var (i := 2) rfl (by first | exact Or.inl rfl | exact Or.inr (Or.inl rfl) | exact Or.inr (Or.inr rfl)) rfl rfl) (m_oS (m_var (i := 3) rfl (by first | exact Or.inl rfl | exact Or.inr (Or.inl rfl) | exact Or.inr (Or.inr rfl)) rfl rfl)) m_oN) (m_cutT (m_var (i := 2) rfl (by first | exact Or.inl rfl | exact Or.inr (Or.inl rfl) | exact Or.inr (Or.inr rfl)) rfl rfl) m_oN (m_oS (m_var (i := 3) rfl (by first | exact Or.inl rfl | exact Or.inr (Or.inl rfl) | exact Or.inr (Or.inr rfl)) rfl rfl))))))))
theorem sc_rings_of : FnScope ["chart", "found", "place", "ring"] ["chart"] (defScope s_rings_of) := ⟨rfl, rfl, rfl, by decide +kernel, rfl, by decide +kernel, by decide +kernel⟩
theorem ok_rings_of {f : Addr} {fd : FuncData} (Fn : Fun K "rings_of" "rings_of" s_rings_of f fd) (T : Bi mg)
    (c_on_rings_of : CalM P w K mg base C 3 "on_rings_of" s_on_rings_of ["chart"] F_on_rings_of)
    (c_ring_at : CalM P w K mg base C 2 "ring_at" s_ring_at ["chart", "place"] F_ring_at) :
    FnM P w K mg base C 4 f fd ["chart"] F_rings_of := by
  refine fn_mk Fn sc_rings_of rfl fun cdv A outer s H E hr hgd => ?_
  exact (ms_cons (ms_asg (m_new (m_lst m_aNil)) (mg_name (i := 1) sc_rings_of.nd rfl (by first | exact Or.inl rfl | exact Or.inr rfl) (by first | exact Or.inl rfl | exact Or.inr rfl)) rfl rfl rfl)
    (ms_cons (ms_for (passes_of rfl) rfl (mi_tup (g_call c_on_rings_of hr hgd (takes_of rfl rfl rfl rfl) (fun _ _ F1 => bi_on_rings_of F1) (m_aCons (m_var (i := 0) rfl (by first | exact Or.inl rfl | exact Or.inr (Or.inl rfl) | exact Or.inr (Or.inr rfl)) rfl rfl) m_aNil rfl))) (mg_name (i := 2) sc_rings_of.nd rfl (by first | exact Or.inl rfl | exact Or.inr rfl) (by first | exact Or.inl rfl | exact Or.inr rfl)) (ms_one (ms_if (m_notT (m_valT (m_any (by rfl) (by rfl) (T.n_any) (pe_lL (m_lcE rfl sc_rings_of.nd (mi_lstV (m_var (i := 1) rfl (by first | exact Or.inl rfl | exact Or.inr (Or.inl rfl) | exact Or.inr (Or.inr rfl)) rfl rfl)) (blk_of ["chart", "found", "place", "ring"] (defScope s_rings_of) [("ring", 3)] rfl rfl ⟨rfl, by decide +kernel, by decide +kernel, by decide +kernel, by decide +kernel⟩) (by decide) (fun _ _ _ _ _ => (mg_name (i := 3) sc_rings_of.nd rfl (by first | exact Or.inl rfl | exact Or.inr rfl) (by first | exact Or.inl rfl | exact Or.inr rfl))) (fun _ _ _ _ _ => mts_nil) (fun _ _ _ _ _ => (m_cmp (om_in (hu65 hr)) (m_var (i := 2) rfl (by first | exact Or.inl rfl | exact Or.inr (Or.inl rfl) | exact Or.inr (Or.inr rfl)) rfl rfl) (m_var (i := 3) rfl (by first | exact Or.inl rfl | exact Or.inr (Or.inl rfl) | exact Or.inr (Or.inr rfl)) rfl rfl) rfl)) (fun _ => rfl))) (by rfl) (by rfl)) (fun _ => rfl))) (ms_one (ms_expr (m_meth mm_append (m_var (i := 1) rfl (by first | exact Or.inl rfl | exact Or.inr (Or.inl rfl) | exact Or.inr (Or.inr rfl)) rfl rfl) (m_aCons (g_call c_ring_at hr hgd (takes_of rfl rfl rfl rfl) (fun _ _ F1 => bi_ring_at F1) (m_aCons (m_var (i := 0) rfl (by first | exact Or.inl rfl | exact Or.inr (Or.inl rfl) | exact Or.inr (Or.inr rfl)) rfl rfl) (m_aCons (m_var (i := 2) rfl (by first | exact Or.inl rfl | exact Or.inr (Or.inl rfl) | exact Or.inr (Or.inr rfl)) rfl rfl) m_aNil rfl) rfl)) m_aNil rfl) (fun h1 h2 h3 => pe_bm PySem.F.plainAttrs_list PySem.F.slot_list_append PySem.F.type_list_append h1 h2 h3)) rfl)) ms_nil)) (fun h1 h2 h3 h4 h5 => ps_for h1 h2 h3 h4 h5))
    (ms_one (ms_ret (m_var (i := 1) rfl (by first | exact Or.inl rfl | exact Or.inr (Or.inl rfl) | exact Or.inr (Or.inr rfl)) rfl rfl)))))
theorem sc_period_of : FnScope ["chart", "found", "ring"] ["chart"] (defScope s_period_of) := ⟨rfl, rfl, rfl, by decide +kernel, rfl, by decide +kernel, by decide +kernel⟩
theorem ok_period_of {f : Addr} {fd : FuncData} (Fn : Fun K "period_of" "period_of" s_period_of f fd) (T : Bi mg)
    (c_rings_of : CalM P w K mg base C 4 "rings_of" s_rings_of ["chart"] F_rings_of) :
    FnM P w K mg base C 5 f fd ["chart"] F_period_of := by
  refine fn_mk Fn sc_period_of rfl fun cdv A outer s H E hr hgd => ?_
  exact (ms_cons (ms_asg m_int (mg_name (i := 1) sc_period_of.nd rfl (by first | exact Or.inl rfl | exact Or.inr rfl) (by first | exact Or.inl rfl | exact Or.inr rfl)) rfl rfl rfl)
    (ms_cons (ms_for (passes_of rfl) rfl (mi_lstV (g_call c_rings_of hr hgd (takes_of rfl rfl rfl rfl) (fun _ _ F1 => bi_rings_of F1) (m_aCons (m_var (i := 0) rfl (by first | exact Or.inl rfl | exact Or.inr (Or.inl rfl) | exact Or.inr (Or.inr rfl)) rfl rfl) m_aNil rfl))) (mg_name (i := 2) sc_period_of.nd rfl (by first | exact Or.inl rfl | exact Or.inr rfl) (by first | exact Or.inl rfl | exact Or.inr rfl)) (ms_one (ms_asg (m_op om_div (m_op om_mul (m_var (i := 1) rfl (by first | exact Or.inl rfl | exact Or.inr (Or.inl rfl) | exact Or.inr (Or.inr rfl)) rfl rfl) (m_len (by rfl) (T.n_len) (pe_qV (m_var (i := 2) rfl (by first | exact Or.inl rfl | exact Or.inr (Or.inl rfl) | exact Or.inr (Or.inr rfl)) rfl rfl)) (by rfl) (by rfl))) (m_gcd (by rfl) T.x_gcd (m_var (i := 1) rfl (by first | exact Or.inl rfl | exact Or.inr (Or.inl rfl) | exact Or.inr (Or.inr rfl)) rfl rfl) (m_len (by rfl) (T.n_len) (pe_qV (m_var (i := 2) rfl (by first | exact Or.inl rfl | exact Or.inr (Or.inl rfl) | exact Or.inr (Or.inr rfl)) rfl rfl)) (by rfl) (by rfl)) (by rfl) (by rfl) (by rfl))) (mg_name (i := 1) sc_period_of.nd rfl (by first | exact Or.inl rfl | exact Or.inr rfl) (by first | exact Or.inl rfl | exact Or.inr rfl)) rfl rfl rfl)) (fun h1 h2 h3 h4 h5 => ps_for h1 h2 h3 h4 h5))
    (ms_one (ms_ret (m_var (i := 1) rfl (by first | exact Or.inl rfl | exact Or.inr (Or.inl rfl) | exact Or.inr (Or.inr rfl)) rfl rfl)))))
theorem sc_period : FnScope ["chart"] ["chart"] (defScope s_period) := ⟨rfl, rfl, rfl, by decide +kernel, rfl, by decide +kernel, by decide +kernel⟩
theorem ok_period {f : Addr} {fd : FuncData} (Fn : Fun K "period" "period" s_period f fd) (T : Bi mg)
    (c_check_chart : CalM P w K mg base C 4 "check_chart" s_check_chart ["value"] F_check_chart)
    (c_period_of : CalM P w K mg base C 5 "period_of" s_period_of ["chart"] F_period_of) :
    FnM P w K mg base C 6 f fd ["chart"] F_period := by
  refine fn_mk Fn sc_period rfl fun cdv A outer s H E hr hgd => ?_
  exact (ms_cons (ms_expr (g_call c_check_chart hr hgd (takes_of rfl rfl rfl rfl) (fun _ _ F1 => bi_check_chart F1) (m_aCons (m_var (i := 0) rfl (by first | exact Or.inl rfl | exact Or.inr (Or.inl rfl) | exact Or.inr (Or.inr rfl)) rfl rfl) m_aNil rfl)) rfl)
    (ms_one (ms_ret (g_call c_period_of hr hgd (takes_of rfl rfl rfl rfl) (fun _ _ F1 => bi_period_of F1) (m_aCons (m_var (i := 0) rfl (by first | exact Or.inl rfl | exact Or.inr (Or.inl rfl) | exact Or.inr (Or.inr rfl)) rfl rfl) m_aNil rfl)))))
theorem sc_check_place : FnScope ["many", "value"] ["many", "value"] (defScope s_check_place) := ⟨rfl, rfl, rfl, by decide +kernel, rfl, by decide +kernel, by decide +kernel⟩
theorem ok_check_place {f : Addr} {fd : FuncData} (Fn : Fun K "check_place" "check_place" s_check_place f fd) (T : Bi mg)
    (c_is_between : CalM P w K mg base C 2 "is_between" s_is_between ["low", "value", "high"] F_is_between) :
    FnM P w K mg base C 3 f fd ["many", "value"] F_check_place := by
  refine fn_mk Fn sc_check_place rfl fun cdv A outer s H E hr hgd => ?_
  exact (ms_one (ms_if (m_notT (m_valT (g_call c_is_between hr hgd (takes_of rfl rfl rfl rfl) (fun _ _ F1 => bi_is_between F1) (m_aCons m_int (m_aCons (m_var (i := 1) rfl (by first | exact Or.inl rfl | exact Or.inr (Or.inl rfl) | exact Or.inr (Or.inr rfl)) rfl rfl) (m_aCons (m_op om_sub (m_var (i := 0) rfl (by first | exact Or.inl rfl | exact Or.inr (Or.inl rfl) | exact Or.inr (Or.inr rfl)) rfl rfl) m_int) m_aNil rfl) rfl) rfl)) (fun _ => rfl))) (ms_one ms_bad) ms_nil))
theorem sc_depth : FnScope ["chart", "place"] ["chart", "place"] (defScope s_depth) := ⟨rfl, rfl, rfl, by decide +kernel, rfl, by decide +kernel, by decide +kernel⟩
theorem ok_depth {f : Addr} {fd : FuncData} (Fn : Fun K "depth" "depth" s_depth f fd) (T : Bi mg)
    (c_check_chart : CalM P w K mg base C 4 "check_chart" s_check_chart ["value"] F_check_chart)
    (c_check_place : CalM P w K mg base C 3 "check_place" s_check_place ["many", "value"] F_check_place)
    (c_depths_of : CalM P w K mg base C 4 "depths_of" s_depths_of ["chart"] F_depths_of) :
    FnM P w K mg base C 5 f fd ["chart", "place"] F_depth := by
  refine fn_mk Fn sc_depth rfl fun cdv A outer s H E hr hgd => ?_
  exact (ms_cons (ms_expr (g_call c_check_chart hr hgd (takes_of rfl rfl rfl rfl) (fun _ _ F1 => bi_check_chart F1) (m_aCons (m_var (i := 0) rfl (by first | exact Or.inl rfl | exact Or.inr (Or.inl rfl) | exact Or.inr (Or.inr rfl)) rfl rfl) m_aNil rfl)) rfl)
    (ms_cons (ms_expr (g_call c_check_place hr hgd (takes_of rfl rfl rfl rfl) (fun _ _ F1 => bi_check_place F1) (m_aCons (m_len (by rfl) (T.n_len) (pe_qV (m_var (i := 0) rfl (by first | exact Or.inl rfl | exact Or.inr (Or.inl rfl) | exact Or.inr (Or.inr rfl)) rfl rfl)) (by rfl) (by rfl)) (m_aCons (m_var (i := 1) rfl (by first | exact Or.inl rfl | exact Or.inr (Or.inl rfl) | exact Or.inr (Or.inr rfl)) rfl rfl) m_aNil rfl) rfl)) rfl)
    (ms_one (ms_ret (m_ix (g_call c_depths_of hr hgd (takes_of rfl rfl rfl rfl) (fun _ _ F1 => bi_depths_of F1) (m_aCons (m_var (i := 0) rfl (by first | exact Or.inl rfl | exact Or.inr (Or.inl rfl) | exact Or.inr (Or.inr rfl)) rfl rfl) m_aNil rfl)) (m_var (i := 1) rfl (by first | exact Or.inl rfl | exact Or.inr (Or.inl rfl) | exact Or.inr (Or.inr rfl)) rfl rfl) (fun _ _ => rfl))))))
theorem sc_children_of : FnScope ["chart", "there", "found", "place", "following"] ["chart"] (defScope s_children_of) := ⟨rfl, rfl, rfl, by decide +kernel, rfl, by decide +kernel, by decide +kernel⟩
theorem ok_children_of {f : Addr} {fd : FuncData} (Fn : Fun K "children_of" "children_of" s_children_of f fd) (T : Bi mg)
    (c_on_rings_of : CalM P w K mg base C 3 "on_rings_of" s_on_rings_of ["chart"] F_on_rings_of) :
    FnM P w K mg base C 4 f fd ["chart"] F_children_of := by
  refine fn_mk Fn sc_children_of rfl fun cdv A outer s H E hr hgd => ?_
  exact (ms_cons (ms_asg (g_call c_on_rings_of hr hgd (takes_of rfl rfl rfl rfl) (fun _ _ F1 => bi_on_rings_of F1) (m_aCons (m_var (i := 0) rfl (by first | exact Or.inl rfl | exact Or.inr (Or.inl rfl) | exact Or.inr (Or.inr rfl)) rfl rfl) m_aNil rfl)) (mg_name (i := 1) sc_children_of.nd rfl (by first | exact Or.inl rfl | exact Or.inr rfl) (by first | exact Or.inl rfl | exact Or.inr rfl)) rfl rfl rfl)
    (ms_cons (ms_setLc (i := 2) rfl sc_children_of.nd rfl rfl rfl (mi_tup (m_var (i := 0) rfl (by first | exact Or.inl rfl | exact Or.inr (Or.inl rfl) | exact Or.inr (Or.inr rfl)) rfl rfl)) (blk_of ["chart", "there", "found", "place", "following"] (defScope s_children_of) [("place", 3)] rfl rfl ⟨rfl, by decide +kernel, by decide +kernel, by decide +kernel, by decide +kernel⟩) (by decide) (fun _ _ _ _ _ => (mg_name (i := 3) sc_children_of.nd rfl (by first | exact Or.inl rfl | exact Or.inr rfl) (by first | exact Or.inl rfl | exact Or.inr rfl))) (fun _ _ _ _ _ => mts_nil) (fun _ _ _ _ _ => (m_new (m_lst m_aNil))) (fun _ => rfl))
    (ms_cons (ms_for (passes_of rfl) rfl (mi_enumT (by rfl) (T.n_enumerate) (m_var (i := 0) rfl (by first | exact Or.inl rfl | exact Or.inr (Or.inl rfl) | exact Or.inr (Or.inr rfl)) rfl rfl) (by rfl)) (mg_tup rfl (mgs_cons (mg_name (i := 3) sc_children_of.nd rfl (by first | exact Or.inl rfl | exact Or.inr rfl) (by first | exact Or.inl rfl | exact Or.inr rfl)) (mgs_cons (mg_name (i := 4) sc_children_of.nd rfl (by first | exact Or.inl rfl | exact Or.inr rfl) (by first | exact Or.inl rfl | exact Or.inr rfl)) mgs_nil rfl) rfl) rfl rfl) (ms_one (ms_if (m_cmpT (om_nin (hu65 hr)) (m_var (i := 3) rfl (by first | exact Or.inl rfl | exact Or.inr (Or.inl rfl) | exact Or.inr (Or.inr rfl)) rfl rfl) (m_var (i := 1) rfl (by first | exact Or.inl rfl | exact Or.inr (Or.inl rfl) | exact Or.inr (Or.inr rfl)) rfl rfl) rfl) (ms_one (ms_expr (m_meth mm_append (m_ix (m_var (i := 2) rfl (by first | exact Or.inl rfl | exact Or.inr (Or.inl rfl) | exact Or.inr (Or.inr rfl)) rfl rfl) (m_var (i := 4) rfl (by first | exact Or.inl rfl | exact Or.inr (Or.inl rfl) | exact Or.inr (Or.inr rfl)) rfl rfl) (fun _ _ => rfl)) (m_aCons (m_var (i := 3) rfl (by first | exact Or.inl rfl | exact Or.inr (Or.inl rfl) | exact Or.inr (Or.inr rfl)) rfl rfl) m_aNil rfl) (fun h1 h2 h3 => pe_bm PySem.F.plainAttrs_list PySem.F.slot_list_append PySem.F.type_list_append h1 h2 h3)) rfl)) ms_nil)) (fun h1 h2 h3 h4 h5 => ps_for h1 h2 h3 h4 h5))
    (ms_one (ms_ret (m_var (i := 2) rfl (by first | exact Or.inl rfl | exact Or.inr (Or.inl rfl) | exact Or.inr (Or.inr rfl)) rfl rfl))))))
theorem sc_children : FnScope ["chart", "place"] ["chart", "place"] (defScope s_children) := ⟨rfl, rfl, rfl, by decide +kernel, rfl, by decide +kernel, by decide +kernel⟩
theorem ok_children {f : Addr} {fd : FuncData} (Fn : Fun K "children" "children" s_children f fd) (T : Bi mg)
    (c_check_chart : CalM P w K mg base C 4 "check_chart" s_check_chart ["value"] F_check_chart)
    (c_check_place : CalM P w K mg base C 3 "check_place" s_check_place ["many", "value"] F_check_place)
    (c_children_of : CalM P w K mg base C 4 "children_of" s_children_of ["chart"] F_children_of) :
    FnM P w K mg base C 5 f fd ["chart", "place"] F_children := by
  refine fn_mk Fn sc_children rfl fun cdv A outer s H E hr hgd => ?_
  exact (ms_cons (ms_expr (g_call c_check_chart hr hgd (takes_of rfl rfl rfl rfl) (fun _ _ F1 => bi_check_chart F1) (m_aCons (m_var (i := 0) rfl (by first | exact Or.inl rfl | exact Or.inr (Or.inl rfl) | exact Or.inr (Or.inr rfl)) rfl rfl) m_aNil rfl)) rfl)
    (ms_cons (ms_expr (g_call c_check_place hr hgd (takes_of rfl rfl rfl rfl) (fun _ _ F1 => bi_check_place F1) (m_aCons (m_len (by rfl) (T.n_len) (pe_qV (m_var (i := 0) rfl (by first | exact Or.inl rfl | exact Or.inr (Or.inl rfl) | exact Or.inr (Or.inr rfl)) rfl rfl)) (by rfl) (by rfl)) (m_aCons (m_var (i := 1) rfl (by first | exact Or.inl rfl | exact Or.inr (Or.inl rfl) | exact Or.inr (Or.inr rfl)) rfl rfl) m_aNil rfl) rfl)) rfl)
    (ms_one (ms_ret (m_tuple (by rfl) (T.n_tuple) (pe_qV (m_ix (g_call c_children_of hr hgd (takes_of rfl rfl rfl rfl) (fun _ _ F1 => bi_children_of F1) (m_aCons (m_var (i := 0) rfl (by first | exact Or.inl rfl | exact Or.inr (Or.inl rfl) | exact Or.inr (Or.inr rfl)) rfl rfl) m_aNil rfl)) (m_var (i := 1) rfl (by first | exact Or.inl rfl | exact Or.inr (Or.inl rfl) | exact Or.inr (Or.inr rfl)) rfl rfl) (fun _ _ => rfl))) (by rfl) (by rfl))))))
theorem sc_tree_of : FnScope ["chart", "place", "below", "found", "at"] ["chart", "place"] (defScope s_tree_of) := ⟨rfl, rfl, rfl, by decide +kernel, rfl, by decide +kernel, by decide +kernel⟩
theorem ok_tree_of {f : Addr} {fd : FuncData} (Fn : Fun K "tree_of" "tree_of" s_tree_of f fd) (T : Bi mg)
    (c_children_of : CalM P w K mg base C 4 "children_of" s_children_of ["chart"] F_children_of) :
    FnM P w K mg base C 5 f fd ["chart", "place"] F_tree_of := by
  refine fn_mk Fn sc_tree_of rfl fun cdv A outer s H E hr hgd => ?_
  exact (ms_cons (ms_asg (g_call c_children_of hr hgd (takes_of rfl rfl rfl rfl) (fun _ _ F1 => bi_children_of F1) (m_aCons (m_var (i := 0) rfl (by first | exact Or.inl rfl | exact Or.inr (Or.inl rfl) | exact Or.inr (Or.inr rfl)) rfl rfl) m_aNil rfl)) (mg_name (i := 2) sc_tree_of.nd rfl (by first | exact Or.inl rfl | exact Or.inr rfl) (by first | exact Or.inl rfl | exact Or.inr rfl)) rfl rfl rfl)
    (ms_cons (ms_asg (m_new (m_lst (m_aCons (m_var (i := 1) rfl (by first | exact Or.inl rfl | exact Or.inr (Or.inl rfl) | exact Or.inr (Or.inr rfl)) rfl rfl) m_aNil rfl))) (mg_name (i := 3) sc_tree_of.nd rfl (by first | exact Or.inl rfl | exact Or.inr rfl) (by first | exact Or.inl rfl | exact Or.inr rfl)) rfl rfl rfl)
    (ms_cons (ms_asg m_int (mg_name (i := 4) sc_tree_of.nd rfl (by first | exact Or.inl rfl | exact Or.inr rfl) (by first | exact Or.inl rfl | exact Or.inr rfl)) rfl rfl rfl)
    (ms_cons (ms_while (passes_of rfl) (m_cmpT (om_lt (hu0 hr)) (m_var (i := 4) rfl (by first | exact Or.inl rfl | exact Or.inr (Or.inl rfl) | exact Or.inr (Or.inr rfl)) rfl rfl) (m_len (by rfl) (T.n_len) (pe_qV (m_var (i := 3) rfl (by first | exact Or.inl rfl | exact Or.inr (Or.inl rfl) | exact Or.inr (Or.inr rfl)) rfl rfl)) (by rfl) (by rfl)) rfl) (ms_cons (ms_aug (i := 3) sc_tree_of.nd rfl (by first | exact Or.inl rfl | exact Or.inr rfl) (m_ix (m_var (i := 2) rfl (by first | exact Or.inl rfl | exact Or.inr (Or.inl rfl) | exact Or.inr (Or.inr rfl)) rfl rfl) (m_ix (m_var (i := 3) rfl (by first | exact Or.inl rfl | exact Or.inr (Or.inl rfl) | exact Or.inr (Or.inr rfl)) rfl rfl) (m_var (i := 4) rfl (by first | exact Or.inl rfl | exact Or.inr (Or.inl rfl) | exact Or.inr (Or.inr rfl)) rfl rfl) (fun _ _ => rfl)) (fun _ _ => rfl)) im_ext (Or.inl rfl))
    (ms_one (ms_aug (i := 4) sc_tree_of.nd rfl (by first | exact Or.inl rfl | exact Or.inr rfl) m_int im_add (Or.inl rfl)))))
    (ms_one (ms_ret (m_tuple (by rfl) (T.n_tuple) (pe_qL (m_sorted (by rfl) (T.n_sorted) (pe_qV (m_var (i := 3) rfl (by first | exact Or.inl rfl | exact Or.inr (Or.inl rfl) | exact Or.inr (Or.inr rfl)) rfl rfl)) (by rfl) (by rfl))) (by rfl) (by rfl))))))))
theorem sc_tree_over : FnScope ["chart", "place"] ["chart", "place"] (defScope s_tree_over) := ⟨rfl, rfl, rfl, by decide +kernel, rfl, by decide +kernel, by decide +kernel⟩
theorem ok_tree_over {f : Addr} {fd : FuncData} (Fn : Fun K "tree_over" "tree_over" s_tree_over f fd) (T : Bi mg)
    (c_check_chart : CalM P w K mg base C 4 "check_chart" s_check_chart ["value"] F_check_chart)
    (c_check_place : CalM P w K mg base C 3 "check_place" s_check_place ["many", "value"] F_check_place)
    (c_tree_of : CalM P w K mg base C 5 "tree_of" s_tree_of ["chart", "place"] F_tree_of) :
    FnM P w K mg base C 6 f fd ["chart", "place"] F_tree_over := by
  refine fn_mk Fn sc_tree_over rfl fun cdv A outer s H E hr hgd => ?_
  exact (ms_cons (ms_expr (g_call c_check_chart hr hgd (takes_of rfl rfl rfl rfl) (fun _ _ F1 => bi_check_chart F1) (m_aCons (m_var (i := 0) rfl (by first | exact Or.inl rfl | exact Or.inr (Or.inl rfl) | exact Or.inr (Or.inr rfl)) rfl rfl) m_aNil rfl)) rfl)
    (ms_cons (ms_expr (g_call c_check_place hr hgd (takes_of rfl rfl rfl rfl) (fun _ _ F1 => bi_check_place F1) (m_aCons (m_len (by rfl) (T.n_len) (pe_qV (m_var (i := 0) rfl (by first | exact Or.inl rfl | exact Or.inr (Or.inl rfl) | exact Or.inr (Or.inr rfl)) rfl rfl)) (by rfl) (by rfl)) (m_aCons (m_var (i := 1) rfl (by first | exact Or.inl rfl | exact Or.inr (Or.inl rfl) | exact Or.inr (Or.inr rfl)) rfl rfl) m_aNil rfl) rfl)) rfl)
    (ms_one (ms_ret (g_call c_tree_of hr hgd (takes_of rfl rfl rfl rfl) (fun _ _ F1 => bi_tree_of F1) (m_aCons (m_var (i := 0) rfl (by first | exact Or.inl rfl | exact Or.inr (Or.inl rfl) | exact Or.inr (Or.inr rfl)) rfl rfl) (m_aCons (m_var (i := 1) rfl (by first | exact Or.inl rfl | exact Or.inr (Or.inl rfl) | exact Or.inr (Or.inr rfl)) rfl rfl) m_aNil rfl) rfl))))))
theorem sc__law_places_right : FnScope ["_law_chart_here", "_law_there", "_law_dues", "_law_x", "_law_low", "_law_over", "_law_y", "_law_way_here", "_law_z"] ["_law_chart_here", "_law_there", "_law_dues"] (defScope s__law_places_right) := ⟨rfl, rfl, rfl, by decide +kernel, rfl, by decide +kernel, by decide +kernel⟩
theorem ok__law_places_right {f : Addr} {fd : FuncData} (Fn : Fun K "_law_places_right" "_law_places_right" s__law_places_right f fd) (T : Bi mg)
    (c__law_way : CalM P w K mg base C 1 "_law_way" s__law_way ["_law_chart_here", "_law_place"] F__law_way)
    (c_depth : CalM P w K mg base C 5 "depth" s_depth ["chart", "place"] F_depth)
    (c_children : CalM P w K mg base C 5 "children" s_children ["chart", "place"] F_children)
    (c_tree_over : CalM P w K mg base C 6 "tree_over" s_tree_over ["chart", "place"] F_tree_over) :
    FnM P w K mg base C 7 f fd ["_law_chart_here", "_law_there", "_law_dues"] F__law_places_right := by
  refine fn_mk Fn sc__law_places_right rfl fun cdv A outer s H E hr hgd => ?_
  exact (ms_cons (ms_for (passes_of rfl) rfl (mi_rg1 (by rfl) (T.n_range) (m_len (by rfl) (T.n_len) (pe_qV (m_var (i := 0) rfl (by first | exact Or.inl rfl | exact Or.inr (Or.inl rfl) | exact Or.inr (Or.inr rfl)) rfl rfl)) (by rfl) (by rfl)) (by rfl) (by rfl)) (mg_name (i := 3) sc__law_places_right.nd rfl (by first | exact Or.inl rfl | exact Or.inr rfl) (by first | exact Or.inl rfl | exact Or.inr rfl)) (ms_cons (ms_asg (m_tuple (by rfl) (T.n_tuple) (pe_qL (m_lcE rfl sc__law_places_right.nd (mi_rg1 (by rfl) (T.n_range) (m_len (by rfl) (T.n_len) (pe_qV (m_var (i := 0) rfl (by first | exact Or.inl rfl | exact Or.inr (Or.inl rfl) | exact Or.inr (Or.inr rfl)) rfl rfl)) (by rfl) (by rfl)) (by rfl) (by rfl)) (blk_of ["_law_chart_here", "_law_there", "_law_dues", "_law_x", "_law_low", "_law_over", "_law_y", "_law_way_here", "_law_z"] (defScope s__law_places_right) [("_law_y", 6)] rfl rfl ⟨rfl, by decide +kernel, by decide +kernel, by decide +kernel, by decide +kernel⟩) (by decide) (fun _ _ _ _ _ => (mg_name (i := 6) sc__law_places_right.nd rfl (by first | exact Or.inl rfl | exact Or.inr rfl) (by first | exact Or.inl rfl | exact Or.inr rfl))) (fun _ _ _ _ _ => (pts_one (PW.pt (m_andT (m_cmpT (om_eq (hu64 hr)) (m_ix (m_var (i := 0) rfl (by first | exact Or.inl rfl | exact Or.inr (Or.inl rfl) | exact Or.inr (Or.inr rfl)) rfl rfl) (m_var (i := 6) rfl (by first | exact Or.inl rfl | exact Or.inr (Or.inl rfl) | exact Or.inr (Or.inr rfl)) rfl rfl) (fun _ _ => rfl)) (m_var (i := 3) rfl (by first | exact Or.inl rfl | exact Or.inr (Or.inl rfl) | exact Or.inr (Or.inr rfl)) rfl rfl) rfl) (pw_and1 (m_cmpT (om_nin (hu65 hr)) (m_var (i := 6) rfl (by first | exact Or.inl rfl | exact Or.inr (Or.inl rfl) | exact Or.inr (Or.inr rfl)) rfl rfl) (m_var (i := 1) rfl (by first | exact Or.inl rfl | exact Or.inr (Or.inl rfl) | exact Or.inr (Or.inr rfl)) rfl rfl) rfl)))))) (fun _ _ _ _ _ => (m_var (i := 6) rfl (by first | exact Or.inl rfl | exact Or.inr (Or.inl rfl) | exact Or.inr (Or.inr rfl)) rfl rfl)) (fun _ => rfl))) (by rfl) (by rfl)) (mg_name (i := 4) sc__law_places_right.nd rfl (by first | exact Or.inl rfl | exact Or.inr rfl) (by first | exact Or.inl rfl | exact Or.inr rfl)) rfl rfl rfl)
    (ms_cons (ms_asg (m_new (m_lst m_aNil)) (mg_name (i := 5) sc__law_places_right.nd rfl (by first | exact Or.inl rfl | exact Or.inr rfl) (by first | exact Or.inl rfl | exact Or.inr rfl)) rfl rfl rfl)
    (ms_cons (ms_for (passes_of rfl) rfl (mi_rg1 (by rfl) (T.n_range) (m_len (by rfl) (T.n_len) (pe_qV (m_var (i := 0) rfl (by first | exact Or.inl rfl | exact Or.inr (Or.inl rfl) | exact Or.inr (Or.inr rfl)) rfl rfl)) (by rfl) (by rfl)) (by rfl) (by rfl)) (mg_name (i := 6) sc__law_places_right.nd rfl (by first | exact Or.inl rfl | exact Or.inr rfl) (by first | exact Or.inl rfl | exact Or.inr rfl)) (ms_cons (ms_asg (m_ix (g_call c__law_way hr hgd (takes_of rfl rfl rfl rfl) (fun _ _ F1 => bi__law_way F1) (m_aCons (m_var (i := 0) rfl (by first | exact Or.inl rfl | exact Or.inr (Or.inl rfl) | exact Or.inr (Or.inr rfl)) rfl rfl) (m_aCons (m_var (i := 6) rfl (by first | exact Or.inl rfl | exact Or.inr (Or.inl rfl) | exact Or.inr (Or.inr rfl)) rfl rfl) m_aNil rfl) rfl)) m_int (fun _ _ => rfl)) (mg_name (i := 7) sc__law_places_right.nd rfl (by first | exact Or.inl rfl | exact Or.inr rfl) (by first | exact Or.inl rfl | exact Or.inr rfl)) rfl rfl rfl)
    (ms_one (ms_if (PW.pt (m_andT (m_cmpT (om_in (hu65 hr)) (m_var (i := 3) rfl (by first | exact Or.inl rfl | exact Or.inr (Or.inl rfl) | exact Or.inr (Or.inr rfl)) rfl rfl) (m_var (i := 7) rfl (by first | exact Or.inl rfl | exact Or.inr (Or.inl rfl) | exact Or.inr (Or.inr rfl)) rfl rfl) rfl) (pw_and1 (m_gcT (m_cmpT (om_eq (hu64 hr)) (m_new (m_lcE rfl sc__law_places_right.nd (mi_fresh (m_cutL (m_var (i := 7) rfl (by first | exact Or.inl rfl | exact Or.inr (Or.inl rfl) | exact Or.inr (Or.inr rfl)) rfl rfl) m_oN (m_oS (m_meth mm_index (m_var (i := 7) rfl (by first | exact Or.inl rfl | exact Or.inr (Or.inl rfl) | exact Or.inr (Or.inr rfl)) rfl rfl) (m_aCons (m_var (i := 3) rfl (by first | exact Or.inl rfl | exact Or.inr (Or.inl rfl) | exact Or.inr (Or.inr rfl)) rfl rfl) m_aNil rfl) (fun h1 h2 h3 => pe_bm PySem.F.plainAttrs_list PySem.F.slot_list_index PySem.F.type_list_index h1 h2 h3))))) (blk_of ["_law_chart_here", "_law_there", "_law_dues", "_law_x", "_law_low", "_law_over", "_law_y", "_law_way_here", "_law_z"] (defScope s__law_places_right) [("_law_z", 8)] rfl rfl ⟨rfl, by decide +kernel, by decide +kernel, by decide +kernel, by decide +kernel⟩) (by decide) (fun _ _ _ _ _ => (mg_name (i := 8) sc__law_places_right.nd rfl (by first | exact Or.inl rfl | exact Or.inr rfl) (by first | exact Or.inl rfl | exact Or.inr rfl))) (fun _ _ _ _ _ => (pts_one (m_cmpT (om_in (hu65 hr)) (m_var (i := 8) rfl (by first | exact Or.inl rfl | exact Or.inr (Or.inl rfl) | exact Or.inr (Or.inr rfl)) rfl rfl) (m_var (i := 1) rfl (by first | exact Or.inl rfl | exact Or.inr (Or.inl rfl) | exact Or.inr (Or.inr rfl)) rfl rfl) rfl))) (fun _ _ _ _ _ => (m_var (i := 8) rfl (by first | exact Or.inl rfl | exact Or.inr (Or.inl rfl) | exact Or.inr (Or.inr rfl)) rfl rfl)) (fun _ => rfl))) (m_new (m_lst m_aNil)) rfl))))) (ms_one (ms_expr (m_meth mm_append (m_var (i := 5) rfl (by first | exact Or.inl rfl | exact Or.inr (Or.inl rfl) | exact Or.inr (Or.inr rfl)) rfl rfl) (m_aCons (m_var (i := 6) rfl (by first | exact Or.inl rfl | exact Or.inr (Or.inl rfl) | exact Or.inr (Or.inr rfl)) rfl rfl) m_aNil rfl) (fun h1 h2 h3 => pe_bm PySem.F.plainAttrs_list PySem.F.slot_list_append PySem.F.type_list_append h1 h2 h3)) rfl)) ms_nil))) (fun h1 h2 h3 h4 h5 => ps_for h1 h2 h3 h4 h5))
    (ms_cons (ms_asg (m_tuple (by rfl) (T.n_tuple) (pe_qV (m_var (i := 5) rfl (by first | exact Or.inl rfl | exact Or.inr (Or.inl rfl) | exact Or.inr (Or.inr rfl)) rfl rfl)) (by rfl) (by rfl)) (mg_name (i := 5) sc__law_places_right.nd rfl (by first | exact Or.inl rfl | exact Or.inr rfl) (by first | exact Or.inl rfl | exact Or.inr rfl)) rfl rfl rfl)
    (ms_cons (ms_if (m_cmpT (om_ne (hu64 hr)) (m_gc (m_reprL hgd (hu80 hr) (by rfl) (T.n_repr) (m_lst (m_aCons (g_call c_depth hr hgd (takes_of rfl rfl rfl rfl) (fun _ _ F1 => bi_depth F1) (m_aCons (m_var (i := 0) rfl (by first | exact Or.inl rfl | exact Or.inr (Or.inl rfl) | exact Or.inr (Or.inr rfl)) rfl rfl) (m_aCons (m_var (i := 3) rfl (by first | exact Or.inl rfl | exact Or.inr (Or.inl rfl) | exact Or.inr (Or.inr rfl)) rfl rfl) m_aNil rfl) rfl)) (m_aCons (g_callK0 (ks := ["place", "chart"]) c_depth hr hgd (takes_of rfl rfl rfl rfl) (fun _ _ F1 => kw_0 F1) (m_kCons (m_var (i := 3) rfl (by first | exact Or.inl rfl | exact Or.inr (Or.inl rfl) | exact Or.inr (Or.inr rfl)) rfl rfl) (m_kCons (m_var (i := 0) rfl (by first | exact Or.inl rfl | exact Or.inr (Or.inl rfl) | exact Or.inr (Or.inr rfl)) rfl rfl) m_kNil)) (aCons_len (aCons_len aNil_len))) m_aNil rfl) rfl)) (by rfl) (by rfl))) (m_gc (m_reprL hgd (hu80 hr) (by rfl) (T.n_repr) (m_lst (m_aCons (m_ix (m_var (i := 2) rfl (by first | exact Or.inl rfl | exact Or.inr (Or.inl rfl) | exact Or.inr (Or.inr rfl)) rfl rfl) (m_var (i := 3) rfl (by first | exact Or.inl rfl | exact Or.inr (Or.inl rfl) | exact Or.inr (Or.inr rfl)) rfl rfl) (fun _ _ => rfl)) (m_aCons (m_ix (m_var (i := 2) rfl (by first | exact Or.inl rfl | exact Or.inr (Or.inl rfl) | exact Or.inr (Or.inr rfl)) rfl rfl) (m_var (i := 3) rfl (by first | exact Or.inl rfl | exact Or.inr (Or.inl rfl) | exact Or.inr (Or.inr rfl)) rfl rfl) (fun _ _ => rfl)) m_aNil rfl) rfl)) (by rfl) (by rfl))) rfl) (ms_one (ms_ret m_bl)) ms_nil)
    (ms_cons (ms_if (m_cmpT (om_ne (hu64 hr)) (m_gc (m_reprL hgd (hu80 hr) (by rfl) (T.n_repr) (m_lst (m_aCons (g_call c_children hr hgd (takes_of rfl rfl rfl rfl) (fun _ _ F1 => bi_children F1) (m_aCons (m_var (i := 0) rfl (by first | exact Or.inl rfl | exact Or.inr (Or.inl rfl) | exact Or.inr (Or.inr rfl)) rfl rfl) (m_aCons (m_var (i := 3) rfl (by first | exact Or.inl rfl | exact Or.inr (Or.inl rfl) | exact Or.inr (Or.inr rfl)) rfl rfl) m_aNil rfl) rfl)) (m_aCons (g_callK0 (ks := ["place", "chart"]) c_children hr hgd (takes_of rfl rfl rfl rfl) (fun _ _ F1 => kw_1 F1) (m_kCons (m_var (i := 3) rfl (by first | exact Or.inl rfl | exact Or.inr (Or.inl rfl) | exact Or.inr (Or.inr rfl)) rfl rfl) (m_kCons (m_var (i := 0) rfl (by first | exact Or.inl rfl | exact Or.inr (Or.inl rfl) | exact Or.inr (Or.inr rfl)) rfl rfl) m_kNil)) (aCons_len (aCons_len aNil_len))) m_aNil rfl) rfl)) (by rfl) (by rfl))) (m_gc (m_reprL hgd (hu80 hr) (by rfl) (T.n_repr) (m_lst (m_aCons (m_var (i := 4) rfl (by first | exact Or.inl rfl | exact Or.inr (Or.inl rfl) | exact Or.inr (Or.inr rfl)) rfl rfl) (m_aCons (m_var (i := 4) rfl (by first | exact Or.inl rfl | exact Or.inr (Or.inl rfl) | exact Or.inr (Or.inr rfl)) rfl rfl) m_aNil rfl) rfl)) (by rfl) (by rfl))) rfl) (ms_one (ms_ret m_bl)) ms_nil)
    (ms_one (ms_if (m_cmpT (om_ne (hu64 hr)) (m_gc (m_reprL hgd (hu80 hr) (by rfl) (T.n_repr) (m_lst (m_aCons (g_call c_tree_over hr hgd (takes_of rfl rfl rfl rfl) (fun _ _ F1 => bi_tree_over F1) (m_aCons (m_var (i := 0) rfl (by first | exact Or.inl rfl | exact Or.inr (Or.inl rfl) | exact Or.inr (Or.inr rfl)) rfl rfl) (m_aCons (m_var (i := 3) rfl (by first | exact Or.inl rfl | exact Or.inr (Or.inl rfl) | exact Or.inr (Or.inr rfl)) rfl rfl) m_aNil rfl) rfl)) (m_aCons (g_callK0 (ks := ["place", "chart"]) c_tree_over hr hgd (takes_of rfl rfl rfl rfl) (fun _ _ F1 => kw_2 F1) (m_kCons (m_var (i := 3) rfl (by first | exact Or.inl rfl | exact Or.inr (Or.inl rfl) | exact Or.inr (Or.inr rfl)) rfl rfl) (m_kCons (m_var (i := 0) rfl (by first | exact Or.inl rfl | exact Or.inr (Or.inl rfl) | exact Or.inr (Or.inr rfl)) rfl rfl) m_kNil)) (aCons_len (aCons_len aNil_len))) m_aNil rfl) rfl)) (by rfl) (by rfl))) (m_gc (m_reprL hgd (hu80 hr) (by rfl) (T.n_repr) (m_lst (m_aCons (m_var (i := 5) rfl (by first | exact Or.inl rfl | exact Or.inr (Or.inl rfl) | exact Or.inr (Or.inr rfl)) rfl rfl) (m_aCons (m_var (i := 5) rfl (by first | exact Or.inl rfl | exact Or.inr (Or.inl rfl) | exact Or.inr (Or.inr rfl)) rfl rfl) m_aNil rfl) rfl)) (by rfl) (by rfl))) rfl) (ms_one (ms_ret m_bl)) ms_nil)))))))) (fun h1 h2 h3 h4 h5 => ps_for h1 h2 h3 h4 h5))
    (ms_one (ms_ret m_bl)))
theorem sc__law_number : FnScope ["_law_cup_here", "_law_way_here", "_law_figures", "_law_many"] ["_law_cup_here"] (defScope s__law_number) := ⟨rfl, rfl, rfl, by decide +kernel, rfl, by decide +kernel, by decide +kernel⟩
theorem ok__law_number {f : Addr} {fd : FuncData} (Fn : Fun K "_law_number" "_law_number" s__law_number f fd) (T : Bi mg)
    (c__law_sip : CalM P w K mg base C 1 "_law_sip" s__law_sip ["_law_cup_here", "_law_many"] F__law_sip) :
    FnM P w K mg base C 2 f fd ["_law_cup_here"] F__law_number := by
  refine fn_mk Fn sc__law_number rfl fun cdv A outer s H E hr hgd => ?_
  exact (ms_cons (ms_asg (g_call c__law_sip hr hgd (takes_of rfl rfl rfl rfl) (fun _ _ F1 => bi__law_sip F1) (m_aCons (m_var (i := 0) rfl (by first | exact Or.inl rfl | exact Or.inr (Or.inl rfl) | exact Or.inr (Or.inr rfl)) rfl rfl) (m_aCons m_int m_aNil rfl) rfl)) (mg_name (i := 1) sc__law_number.nd rfl (by first | exact Or.inl rfl | exact Or.inr rfl) (by first | exact Or.inl rfl | exact Or.inr rfl)) rfl rfl rfl)
    (ms_cons (ms_if (m_cmpT (om_eq (hu64 hr)) (m_var (i := 1) rfl (by first | exact Or.inl rfl | exact Or.inr (Or.inl rfl) | exact Or.inr (Or.inr rfl)) rfl rfl) m_int rfl) (ms_one (ms_ret (g_call c__law_sip hr hgd (takes_of rfl rfl rfl rfl) (fun _ _ F1 => bi__law_sip F1) (m_aCons (m_var (i := 0) rfl (by first | exact Or.inl rfl | exact Or.inr (Or.inl rfl) | exact Or.inr (Or.inr rfl)) rfl rfl) (m_aCons m_int m_aNil rfl) rfl)))) ms_nil)
    (ms_cons (ms_if (m_cmpT (om_eq (hu64 hr)) (m_var (i := 1) rfl (by first | exact Or.inl rfl | exact Or.inr (Or.inl rfl) | exact Or.inr (Or.inr rfl)) rfl rfl) m_int rfl) (ms_one (ms_ret (m_op om_add (m_op om_mul (m_op om_pow m_int m_int) (m_op om_pow m_int m_int)) (g_call c__law_sip hr hgd (takes_of rfl rfl rfl rfl) (fun _ _ F1 => bi__law_sip F1) (m_aCons (m_var (i := 0) rfl (by first | exact Or.inl rfl | exact Or.inr (Or.inl rfl) | exact Or.inr (Or.inr rfl)) rfl rfl) (m_aCons m_int m_aNil rfl) rfl))))) ms_nil)
    (ms_cons (ms_if (m_cmpT (om_eq (hu64 hr)) (m_var (i := 1) rfl (by first | exact Or.inl rfl | exact Or.inr (Or.inl rfl) | exact Or.inr (Or.inr rfl)) rfl rfl) m_int rfl) (ms_cons (ms_asg (m_new (m_lst (m_aCons (m_op om_pow m_int m_int) (m_aCons (m_op om_pow m_int m_int) (m_aCons (m_op om_pow m_int m_int) (m_aCons (m_op om_pow m_int m_int) (m_aCons (m_op om_pow m_int m_int) (m_aCons (m_op om_mul (m_op om_pow m_int m_int) (m_op om_pow m_int m_int)) (m_aCons (m_op om_mul (m_op om_pow m_int m_int) (m_op om_pow m_int m_int)) m_aNil rfl) rfl) rfl) rfl) rfl) rfl) rfl))) (mg_name (i := 2) sc__law_number.nd rfl (by first | exact Or.inl rfl | exact Or.inr rfl) (by first | exact Or.inl rfl | exact Or.inr rfl)) rfl rfl rfl)
    (ms_cons (ms_asg (m_op om_mul (m_ix (m_var (i := 2) rfl (by first | exact Or.inl rfl | exact Or.inr (Or.inl rfl) | exact Or.inr (Or.inr rfl)) rfl rfl) (g_call c__law_sip hr hgd (takes_of rfl rfl rfl rfl) (fun _ _ F1 => bi__law_sip F1) (m_aCons (m_var (i := 0) rfl (by first | exact Or.inl rfl | exact Or.inr (Or.inl rfl) | exact Or.inr (Or.inr rfl)) rfl rfl) (m_aCons m_int m_aNil rfl) rfl)) (fun _ _ => rfl)) (m_ix (m_new (m_lst (m_aCons m_int (m_aCons m_int m_aNil rfl) rfl))) (g_call c__law_sip hr hgd (takes_of rfl rfl rfl rfl) (fun _ _ F1 => bi__law_sip F1) (m_aCons (m_var (i := 0) rfl (by first | exact Or.inl rfl | exact Or.inr (Or.inl rfl) | exact Or.inr (Or.inr rfl)) rfl rfl) (m_aCons m_int m_aNil rfl) rfl)) (fun _ _ => rfl))) (mg_name (i := 3) sc__law_number.nd rfl (by first | exact Or.inl rfl | exact Or.inr rfl) (by first | exact Or.inl rfl | exact Or.inr rfl)) rfl rfl rfl)
    (ms_one (ms_ret (m_op om_add (m_var (i := 3) rfl (by first | exact Or.inl rfl | exact Or.inr (Or.inl rfl) | exact Or.inr (Or.inr rfl)) rfl rfl) (g_call c__law_sip hr hgd (takes_of rfl rfl rfl rfl) (fun _ _ F1 => bi__law_sip F1) (m_aCons (m_var (i := 0) rfl (by first | exact Or.inl rfl | exact Or.inr (Or.inl rfl) | exact Or.inr (Or.inr rfl)) rfl rfl) (m_aCons (m_ix (m_new (m_lst (m_aCons m_int (m_aCons m_int m_aNil rfl) rfl))) (g_call c__law_sip hr hgd (takes_of rfl rfl rfl rfl) (fun _ _ F1 => bi__law_sip F1) (m_aCons (m_var (i := 0) rfl (by first | exact Or.inl rfl | exact Or.inr (Or.inl rfl) | exact Or.inr (Or.inr rfl)) rfl rfl) (m_aCons m_int m_aNil rfl) rfl)) (fun _ _ => rfl)) m_aNil rfl) rfl))))))) ms_nil)
    (ms_one (ms_ret (g_call c__law_sip hr hgd (takes_of rfl rfl rfl rfl) (fun _ _ F1 => bi__law_sip F1) (m_aCons (m_var (i := 0) rfl (by first | exact Or.inl rfl | exact Or.inr (Or.inl rfl) | exact Or.inr (Or.inr rfl)) rfl rfl) (m_aCons m_int m_aNil rfl) rfl))))))))
theorem sc_is_from : FnScope ["low", "value"] ["low", "value"] (defScope s_is_from) := ⟨rfl, rfl, rfl, by decide +kernel, rfl, by decide +kernel, by decide +kernel⟩
theorem ok_is_from {f : Addr} {fd : FuncData} (Fn : Fun K "is_from" "is_from" s_is_from f fd) (T : Bi mg)
    (c_is_integer : CalM P w K mg base C 1 "is_integer" s_is_integer ["value"] F_is_integer) :
    FnM P w K mg base C 2 f fd ["low", "value"] F_is_from := by
  refine fn_mk Fn sc_is_from rfl fun cdv A outer s H E hr hgd => ?_
  exact (ms_one (ms_ret (m_and (g_call c_is_integer hr hgd (takes_of rfl rfl rfl rfl) (fun _ _ F1 => bi_is_integer F1) (m_aCons (m_var (i := 1) rfl (by first | exact Or.inl rfl | exact Or.inr (Or.inl rfl) | exact Or.inr (Or.inr rfl)) rfl rfl) m_aNil rfl)) (pe_one (m_cmp om_ge (m_var (i := 1) rfl (by first | exact Or.inl rfl | exact Or.inr (Or.inl rfl) | exact Or.inr (Or.inr rfl)) rfl rfl) (m_var (i := 0) rfl (by first | exact Or.inl rfl | exact Or.inr (Or.inl rfl) | exact Or.inr (Or.inr rfl)) rfl rfl) rfl)))))
theorem sc_check_number : FnScope ["value"] ["value"] (defScope s_check_number) := ⟨rfl, rfl, rfl, by decide +kernel, rfl, by decide +kernel, by decide +kernel⟩
theorem ok_check_number {f : Addr} {fd : FuncData} (Fn : Fun K "check_number" "check_number" s_check_number f fd) (T : Bi mg)
    (c_is_from : CalM P w K mg base C 2 "is_from" s_is_from ["low", "value"] F_is_from) :
    FnM P w K mg base C 3 f fd ["value"] F_check_number := by
  refine fn_mk Fn sc_check_number rfl fun cdv A outer s H E hr hgd => ?_
  exact (ms_one (ms_if (m_notT (m_valT (g_call c_is_from hr hgd (takes_of rfl rfl rfl rfl) (fun _ _ F1 => bi_is_from F1) (m_aCons m_int (m_aCons (m_var (i := 0) rfl (by first | exact Or.inl rfl | exact Or.inr (Or.inl rfl) | exact Or.inr (Or.inr rfl)) rfl rfl) m_aNil rfl) rfl)) (fun _ => rfl))) (ms_one ms_bad) ms_nil))
theorem sc_first_repeat : FnScope ["chart", "number"] ["chart", "number"] (defScope s_first_repeat) := ⟨rfl, rfl, rfl, by decide +kernel, rfl, by decide +kernel, by decide +kernel⟩
theorem ok_first_repeat {f : Addr} {fd : FuncData} (Fn : Fun K "first_repeat" "first_repeat" s_first_repeat f fd) (T : Bi mg)
    (c_check_chart : CalM P w K mg base C 4 "check_chart" s_check_chart ["value"] F_check_chart)
    (c_check_number : CalM P w K mg base C 3 "check_number" s_check_number ["value"] F_check_number)
    (c_height_of : CalM P w K mg base C 5 "height_of" s_height_of ["chart"] F_height_of)
    (c_period_of : CalM P w K mg base C 5 "period_of" s_period_of ["chart"] F_period_of) :
    FnM P w K mg base C 6 f fd ["chart", "number"] F_first_repeat := by
  refine fn_mk Fn sc_first_repeat rfl fun cdv A outer s H E hr hgd => ?_
  exact (ms_cons (ms_expr (g_call c_check_chart hr hgd (takes_of rfl rfl rfl rfl) (fun _ _ F1 => bi_check_chart F1) (m_aCons (m_var (i := 0) rfl (by first | exact Or.inl rfl | exact Or.inr (Or.inl rfl) | exact Or.inr (Or.inr rfl)) rfl rfl) m_aNil rfl)) rfl)
    (ms_cons (ms_expr (g_call c_check_number hr hgd (takes_of rfl rfl rfl rfl) (fun _ _ F1 => bi_check_number F1) (m_aCons (m_var (i := 1) rfl (by first | exact Or.inl rfl | exact Or.inr (Or.inl rfl) | exact Or.inr (Or.inr rfl)) rfl rfl) m_aNil rfl)) rfl)
    (ms_one (ms_ret (m_if (m_cmpT om_ge (m_var (i := 1) rfl (by first | exact Or.inl rfl | exact Or.inr (Or.inl rfl) | exact Or.inr (Or.inr rfl)) rfl rfl) (g_call c_height_of hr hgd (takes_of rfl rfl rfl rfl) (fun _ _ F1 => bi_height_of F1) (m_aCons (m_var (i := 0) rfl (by first | exact Or.inl rfl | exact Or.inr (Or.inl rfl) | exact Or.inr (Or.inr rfl)) rfl rfl) m_aNil rfl)) rfl) (m_op om_add (m_var (i := 1) rfl (by first | exact Or.inl rfl | exact Or.inr (Or.inl rfl) | exact Or.inr (Or.inr rfl)) rfl rfl) (g_call c_period_of hr hgd (takes_of rfl rfl rfl rfl) (fun _ _ F1 => bi_period_of F1) (m_aCons (m_var (i := 0) rfl (by first | exact Or.inl rfl | exact Or.inr (Or.inl rfl) | exact Or.inr (Or.inr rfl)) rfl rfl) m_aNil rfl))) m_non)))))
theorem sc_law : FnScope ["_law_script", "_law_cell", "_law_cup_here", "_law_chart_here", "_law_rings_here", "_law_there", "_law_dues", "_law_number_here", "_law_high", "_law_least_here", "_law_due", "_law_x", "_law_ring", "_law_y"] ["_law_script"] (defScope s_law) := ⟨rfl, rfl, rfl, by decide +kernel, rfl, by decide +kernel, by decide +kernel⟩
theorem ok_law {f : Addr} {fd : FuncData} (Fn : Fun K "law" "law" s_law f fd) (T : Bi mg)
    (c__law_cup : CalM P w K mg base C 1 "_law_cup" s__law_cup ["_law_cell"] F__law_cup)
    (c__law_chart : CalM P w K mg base C 3 "_law_chart" s__law_chart ["_law_cup_here", "_law_many"] F__law_chart)
    (c__law_sip : CalM P w K mg base C 1 "_law_sip" s__law_sip ["_law_cup_here", "_law_many"] F__law_sip)
    (c__law_rings : CalM P w K mg base C 2 "_law_rings" s__law_rings ["_law_chart_here"] F__law_rings)
    (c__law_way : CalM P w K mg base C 1 "_law_way" s__law_way ["_law_chart_here", "_law_place"] F__law_way)
    (c_depths : CalM P w K mg base C 5 "depths" s_depths ["chart"] F_depths)
    (c__law_least : CalM P w K mg base C 1 "_law_least" s__law_least ["_law_lengths"] F__law_least)
    (c_height : CalM P w K mg base C 6 "height" s_height ["chart"] F_height)
    (c_period : CalM P w K mg base C 6 "period" s_period ["chart"] F_period)
    (c__law_places_right : CalM P w K mg base C 7 "_law_places_right" s__law_places_right ["_law_chart_here", "_law_there", "_law_dues"] F__law_places_right)
    (c__law_number : CalM P w K mg base C 2 "_law_number" s__law_number ["_law_cup_here"] F__law_number)
    (c_first_repeat : CalM P w K mg base C 6 "first_repeat" s_first_repeat ["chart", "number"] F_first_repeat) :
    FnM P w K mg base C 8 f fd ["_law_script"] F_law := by
  refine fn_mk Fn sc_law rfl fun cdv A outer s H E hr hgd => ?_
  exact (ms_cons (ms_for (passes_of rfl) rfl (mi_fresh (m_cat (m_lst (m_aCons m_int m_aNil rfl)) (m_cutL (m_var (i := 0) rfl (by first | exact Or.inl rfl | exact Or.inr (Or.inl rfl) | exact Or.inr (Or.inr rfl)) rfl rfl) m_oN (m_oS m_int)))) (mg_name (i := 1) sc_law.nd rfl (by first | exact Or.inl rfl | exact Or.inr rfl) (by first | exact Or.inl rfl | exact Or.inr rfl)) (ms_cons (ms_asg (g_call c__law_cup hr hgd (takes_of rfl rfl rfl rfl) (fun _ _ F1 => bi__law_cup F1) (m_aCons (m_var (i := 1) rfl (by first | exact Or.inl rfl | exact Or.inr (Or.inl rfl) | exact Or.inr (Or.inr rfl)) rfl rfl) m_aNil rfl)) (mg_name (i := 2) sc_law.nd rfl (by first | exact Or.inl rfl | exact Or.inr rfl) (by first | exact Or.inl rfl | exact Or.inr rfl)) rfl rfl rfl)
    (ms_cons (ms_asg (g_call c__law_chart hr hgd (takes_of rfl rfl rfl rfl) (fun _ _ F1 => bi__law_chart F1) (m_aCons (m_var (i := 2) rfl (by first | exact Or.inl rfl | exact Or.inr (Or.inl rfl) | exact Or.inr (Or.inr rfl)) rfl rfl) (m_aCons (m_op om_add m_int (g_call c__law_sip hr hgd (takes_of rfl rfl rfl rfl) (fun _ _ F1 => bi__law_sip F1) (m_aCons (m_var (i := 2) rfl (by first | exact Or.inl rfl | exact Or.inr (Or.inl rfl) | exact Or.inr (Or.inr rfl)) rfl rfl) (m_aCons m_int m_aNil rfl) rfl))) m_aNil rfl) rfl)) (mg_name (i := 3) sc_law.nd rfl (by first | exact Or.inl rfl | exact Or.inr rfl) (by first | exact Or.inl rfl | exact Or.inr rfl)) rfl rfl rfl)
    (ms_cons (ms_asg (g_call c__law_rings hr hgd (takes_of rfl rfl rfl rfl) (fun _ _ F1 => bi__law_rings F1) (m_aCons (m_var (i := 3) rfl (by first | exact Or.inl rfl | exact Or.inr (Or.inl rfl) | exact Or.inr (Or.inr rfl)) rfl rfl) m_aNil rfl)) (mg_name (i := 4) sc_law.nd rfl (by first | exact Or.inl rfl | exact Or.inr rfl) (by first | exact Or.inl rfl | exact Or.inr rfl)) rfl rfl rfl)
    (ms_cons (ms_asg (m_new (m_lcE rfl sc_law.nd (mi_rg1 (by rfl) (T.n_range) (m_len (by rfl) (T.n_len) (pe_qV (m_var (i := 3) rfl (by first | exact Or.inl rfl | exact Or.inr (Or.inl rfl) | exact Or.inr (Or.inr rfl)) rfl rfl)) (by rfl) (by rfl)) (by rfl) (by rfl)) (blk_of ["_law_script", "_law_cell", "_law_cup_here", "_law_chart_here", "_law_rings_here", "_law_there", "_law_dues", "_law_number_here", "_law_high", "_law_least_here", "_law_due", "_law_x", "_law_ring", "_law_y"] (defScope s_law) [("_law_x", 11)] rfl rfl ⟨rfl, by decide +kernel, by decide +kernel, by decide +kernel, by decide +kernel⟩) (by decide) (fun _ _ _ _ _ => (mg_name (i := 11) sc_law.nd rfl (by first | exact Or.inl rfl | exact Or.inr rfl) (by first | exact Or.inl rfl | exact Or.inr rfl))) (fun _ _ _ _ _ => (pts_one (m_gcT (m_cmpT (om_ne (hu64 hr)) (m_new (m_lcE rfl sc_law.nd (mi_lstV (m_var (i := 4) rfl (by first | exact Or.inl rfl | exact Or.inr (Or.inl rfl) | exact Or.inr (Or.inr rfl)) rfl rfl)) (blk_of2 ["_law_script", "_law_cell", "_law_cup_here", "_law_chart_here", "_law_rings_here", "_law_there", "_law_dues", "_law_number_here", "_law_high", "_law_least_here", "_law_due", "_law_x", "_law_ring", "_law_y"] [("_law_ring", 12)] rfl ⟨rfl, by decide +kernel, by decide +kernel, by decide +kernel, by decide +kernel⟩) (by decide) (fun _ _ _ _ _ => (mg_name (i := 12) sc_law.nd rfl (by first | exact Or.inl rfl | exact Or.inr rfl) (by first | exact Or.inl rfl | exact Or.inr rfl))) (fun _ _ _ _ _ => (pts_one (m_cmpT (om_in (hu65 hr)) (m_var (i := 11) rfl (by first | exact Or.inl rfl | exact Or.inr (Or.inl rfl) | exact Or.inr (Or.inr rfl)) rfl rfl) (m_var (i := 12) rfl (by first | exact Or.inl rfl | exact Or.inr (Or.inl rfl) | exact Or.inr (Or.inr rfl)) rfl rfl) rfl))) (fun _ _ _ _ _ => (m_var (i := 12) rfl (by first | exact Or.inl rfl | exact Or.inr (Or.inl rfl) | exact Or.inr (Or.inr rfl)) rfl rfl)) (fun _ => rfl))) (m_new (m_lst m_aNil)) rfl)))) (fun _ _ _ _ _ => (m_var (i := 11) rfl (by first | exact Or.inl rfl | exact Or.inr (Or.inl rfl) | exact Or.inr (Or.inr rfl)) rfl rfl)) (fun _ => rfl))) (mg_name (i := 5) sc_law.nd rfl (by first | exact Or.inl rfl | exact Or.inr rfl) (by first | exact Or.inl rfl | exact Or.inr rfl)) rfl rfl rfl)
    (ms_cons (ms_asg (m_tuple (by rfl) (T.n_tuple) (pe_qL (m_lcE rfl sc_law.nd (mi_rg1 (by rfl) (T.n_range) (m_len (by rfl) (T.n_len) (pe_qV (m_var (i := 3) rfl (by first | exact Or.inl rfl | exact Or.inr (Or.inl rfl) | exact Or.inr (Or.inr rfl)) rfl rfl)) (by rfl) (by rfl)) (by rfl) (by rfl)) (blk_of ["_law_script", "_law_cell", "_law_cup_here", "_law_chart_here", "_law_rings_here", "_law_there", "_law_dues", "_law_number_here", "_law_high", "_law_least_here", "_law_due", "_law_x", "_law_ring", "_law_y"] (defScope s_law) [("_law_x", 11)] rfl rfl ⟨rfl, by decide +kernel, by decide +kernel, by decide +kernel, by decide +kernel⟩) (by decide) (fun _ _ _ _ _ => (mg_name (i := 11) sc_law.nd rfl (by first | exact Or.inl rfl | exact Or.inr rfl) (by first | exact Or.inl rfl | exact Or.inr rfl))) (fun _ _ _ _ _ => mts_nil) (fun _ _ _ _ _ => (m_gc (m_len (by rfl) (T.n_len) (pe_qL (m_lcE rfl sc_law.nd (mi_lstV (m_ix (g_call c__law_way hr hgd takes0 (fun _ _ F1 => bi__law_way F1) (m_aCons (m_var (i := 3) rfl (by first | exact Or.inl rfl | exact Or.inr (Or.inl rfl) | exact Or.inr (Or.inr rfl)) rfl rfl) (m_aCons (m_var (i := 11) rfl (by first | exact Or.inl rfl | exact Or.inr (Or.inl rfl) | exact Or.inr (Or.inr rfl)) rfl rfl) m_aNil rfl) rfl)) m_int (fun _ _ => rfl))) (blk_of2 ["_law_script", "_law_cell", "_law_cup_here", "_law_chart_here", "_law_rings_here", "_law_there", "_law_dues", "_law_number_here", "_law_high", "_law_least_here", "_law_due", "_law_x", "_law_ring", "_law_y"] [("_law_y", 13)] rfl ⟨rfl, by decide +kernel, by decide +kernel, by decide +kernel, by decide +kernel⟩) (by decide) (fun _ _ _ _ _ => (mg_name (i := 13) sc_law.nd rfl (by first | exact Or.inl rfl | exact Or.inr rfl) (by first | exact Or.inl rfl | exact Or.inr rfl))) (fun _ _ _ _ _ => (pts_one (m_cmpT (om_nin (hu65 hr)) (m_var (i := 13) rfl (by first | exact Or.inl rfl | exact Or.inr (Or.inl rfl) | exact Or.inr (Or.inr rfl)) rfl rfl) (m_var (i := 5) rfl (by first | exact Or.inl rfl | exact Or.inr (Or.inl rfl) | exact Or.inr (Or.inr rfl)) rfl rfl) rfl))) (fun _ _ _ _ _ => (m_var (i := 13) rfl (by first | exact Or.inl rfl | exact Or.inr (Or.inl rfl) | exact Or.inr (Or.inr rfl)) rfl rfl)) (fun _ => rfl))) (by rfl) (by rfl)))) (fun _ => rfl))) (by rfl) (by rfl)) (mg_name (i := 6) sc_law.nd rfl (by first | exact Or.inl rfl | exact Or.inr rfl) (by first | exact Or.inl rfl | exact Or.inr rfl)) rfl rfl rfl)
    (ms_cons (ms_if (m_cmpT (om_ne (hu64 hr)) (m_gc (m_reprL hgd (hu80 hr) (by rfl) (T.n_repr) (m_lst (m_aCons (g_call c_depths hr hgd (takes_of rfl rfl rfl rfl) (fun _ _ F1 => bi_depths F1) (m_aCons (m_var (i := 3) rfl (by first | exact Or.inl rfl | exact Or.inr (Or.inl rfl) | exact Or.inr (Or.inr rfl)) rfl rfl) m_aNil rfl)) (m_aCons (g_callK0 (ks := ["chart"]) c_depths hr hgd (takes_of rfl rfl rfl rfl) (fun _ _ F1 => kw_3 F1) (m_kCons (m_var (i := 3) rfl (by first | exact Or.inl rfl | exact Or.inr (Or.inl rfl) | exact Or.inr (Or.inr rfl)) rfl rfl) m_kNil) (aCons_len aNil_len)) m_aNil rfl) rfl)) (by rfl) (by rfl))) (m_gc (m_reprL hgd (hu80 hr) (by rfl) (T.n_repr) (m_lst (m_aCons (m_var (i := 6) rfl (by first | exact Or.inl rfl | exact Or.inr (Or.inl rfl) | exact Or.inr (Or.inr rfl)) rfl rfl) (m_aCons (m_var (i := 6) rfl (by first | exact Or.inl rfl | exact Or.inr (Or.inl rfl) | exact Or.inr (Or.inr rfl)) rfl rfl) m_aNil rfl) rfl)) (by rfl) (by rfl))) rfl) (ms_one (ms_ret m_bl)) ms_nil)
    (ms_cons (ms_par rfl sc_law.nd rfl rfl (by decide) rfl rfl (m_aCons (m_maxT (hu64 hr) (by rfl) (by rfl) (T.n_max) (m_var (i := 6) rfl (by first | exact Or.inl rfl | exact Or.inr (Or.inl rfl) | exact Or.inr (Or.inr rfl)) rfl rfl) (by rfl) (by rfl)) (m_aCons (g_call c__law_least hr hgd (takes_of rfl rfl rfl rfl) (fun _ _ F1 => bi__law_least F1) (m_aCons (m_new (m_lcE rfl sc_law.nd (mi_lstV (m_var (i := 4) rfl (by first | exact Or.inl rfl | exact Or.inr (Or.inl rfl) | exact Or.inr (Or.inr rfl)) rfl rfl)) (blk_of ["_law_script", "_law_cell", "_law_cup_here", "_law_chart_here", "_law_rings_here", "_law_there", "_law_dues", "_law_number_here", "_law_high", "_law_least_here", "_law_due", "_law_x", "_law_ring", "_law_y"] (defScope s_law) [("_law_ring", 12)] rfl rfl ⟨rfl, by decide +kernel, by decide +kernel, by decide +kernel, by decide +kernel⟩) (by decide) (fun _ _ _ _ _ => (mg_name (i := 12) sc_law.nd rfl (by first | exact Or.inl rfl | exact Or.inr rfl) (by first | exact Or.inl rfl | exact Or.inr rfl))) (fun _ _ _ _ _ => mts_nil) (fun _ _ _ _ _ => (m_len (by rfl) (T.n_len) (pe_qV (m_var (i := 12) rfl (by first | exact Or.inl rfl | exact Or.inr (Or.inl rfl) | exact Or.inr (Or.inr rfl)) rfl rfl)) (by rfl) (by rfl))) (fun _ => rfl))) m_aNil rfl)) m_aNil rfl) rfl) rfl rfl)
    (ms_cons (ms_if (m_cmpT (om_ne (hu64 hr)) (m_gc (m_reprL hgd (hu80 hr) (by rfl) (T.n_repr) (m_lst (m_aCons (g_call c_height hr hgd (takes_of rfl rfl rfl rfl) (fun _ _ F1 => bi_height F1) (m_aCons (m_var (i := 3) rfl (by first | exact Or.inl rfl | exact Or.inr (Or.inl rfl) | exact Or.inr (Or.inr rfl)) rfl rfl) m_aNil rfl)) (m_aCons (g_callK0 (ks := ["chart"]) c_height hr hgd (takes_of rfl rfl rfl rfl) (fun _ _ F1 => kw_4 F1) (m_kCons (m_var (i := 3) rfl (by first | exact Or.inl rfl | exact Or.inr (Or.inl rfl) | exact Or.inr (Or.inr rfl)) rfl rfl) m_kNil) (aCons_len aNil_len)) m_aNil rfl) rfl)) (by rfl) (by rfl))) (m_gc (m_reprL hgd (hu80 hr) (by rfl) (T.n_repr) (m_lst (m_aCons (m_var (i := 8) rfl (by first | exact Or.inl rfl | exact Or.inr (Or.inl rfl) | exact Or.inr (Or.inr rfl)) rfl rfl) (m_aCons (m_var (i := 8) rfl (by first | exact Or.inl rfl | exact Or.inr (Or.inl rfl) | exact Or.inr (Or.inr rfl)) rfl rfl) m_aNil rfl) rfl)) (by rfl) (by rfl))) rfl) (ms_one (ms_ret m_bl)) ms_nil)
    (ms_cons (ms_if (m_cmpT (om_ne (hu64 hr)) (m_gc (m_reprL hgd (hu80 hr) (by rfl) (T.n_repr) (m_lst (m_aCons (g_call c_period hr hgd (takes_of rfl rfl rfl rfl) (fun _ _ F1 => bi_period F1) (m_aCons (m_var (i := 3) rfl (by first | exact Or.inl rfl | exact Or.inr (Or.inl rfl) | exact Or.inr (Or.inr rfl)) rfl rfl) m_aNil rfl)) (m_aCons (g_callK0 (ks := ["chart"]) c_period hr hgd (takes_of rfl rfl rfl rfl) (fun _ _ F1 => kw_5 F1) (m_kCons (m_var (i := 3) rfl (by first | exact Or.inl rfl | exact Or.inr (Or.inl rfl) | exact Or.inr (Or.inr rfl)) rfl rfl) m_kNil) (aCons_len aNil_len)) m_aNil rfl) rfl)) (by rfl) (by rfl))) (m_gc (m_reprL hgd (hu80 hr) (by rfl) (T.n_repr) (m_lst (m_aCons (m_var (i := 9) rfl (by first | exact Or.inl rfl | exact Or.inr (Or.inl rfl) | exact Or.inr (Or.inr rfl)) rfl rfl) (m_aCons (m_var (i := 9) rfl (by first | exact Or.inl rfl | exact Or.inr (Or.inl rfl) | exact Or.inr (Or.inr rfl)) rfl rfl) m_aNil rfl) rfl)) (by rfl) (by rfl))) rfl) (ms_one (ms_ret m_bl)) ms_nil)
    (ms_cons (ms_if (m_notT (m_valT (g_call c__law_places_right hr hgd (takes_of rfl rfl rfl rfl) (fun _ _ F1 => bi__law_places_right F1) (m_aCons (m_var (i := 3) rfl (by first | exact Or.inl rfl | exact Or.inr (Or.inl rfl) | exact Or.inr (Or.inr rfl)) rfl rfl) (m_aCons (m_var (i := 5) rfl (by first | exact Or.inl rfl | exact Or.inr (Or.inl rfl) | exact Or.inr (Or.inr rfl)) rfl rfl) (m_aCons (m_var (i := 6) rfl (by first | exact Or.inl rfl | exact Or.inr (Or.inl rfl) | exact Or.inr (Or.inr rfl)) rfl rfl) m_aNil rfl) rfl) rfl)) (fun _ => rfl))) (ms_one (ms_ret m_bl)) ms_nil)
    (ms_one (ms_for (passes_of rfl) rfl (mi_fresh (m_lst (m_aCons m_int (m_aCons (m_var (i := 8) rfl (by first | exact Or.inl rfl | exact Or.inr (Or.inl rfl) | exact Or.inr (Or.inr rfl)) rfl rfl) (m_aCons (m_max2 (by rfl) (by rfl) (T.n_max) m_int (m_op om_sub (m_var (i := 8) rfl (by first | exact Or.inl rfl | exact Or.inr (Or.inl rfl) | exact Or.inr (Or.inr rfl)) rfl rfl) m_int) (by rfl) (by rfl) (by rfl)) (m_aCons (m_op om_add (m_var (i := 8) rfl (by first | exact Or.inl rfl | exact Or.inr (Or.inl rfl) | exact Or.inr (Or.inr rfl)) rfl rfl) m_int) (m_aCons (g_call c__law_number hr hgd (takes_of rfl rfl rfl rfl) (fun _ _ F1 => bi__law_number F1) (m_aCons (m_var (i := 2) rfl (by first | exact Or.inl rfl | exact Or.inr (Or.inl rfl) | exact Or.inr (Or.inr rfl)) rfl rfl) m_aNil rfl)) m_aNil rfl) rfl) rfl) rfl) rfl))) (mg_name (i := 7) sc_law.nd rfl (by first | exact Or.inl rfl | exact Or.inr rfl) (by first | exact Or.inl rfl | exact Or.inr rfl)) (ms_cons (ms_asg (m_if (m_cmpT om_ge (m_var (i := 7) rfl (by first | exact Or.inl rfl | exact Or.inr (Or.inl rfl) | exact Or.inr (Or.inr rfl)) rfl rfl) (m_var (i := 8) rfl (by first | exact Or.inl rfl | exact Or.inr (Or.inl rfl) | exact Or.inr (Or.inr rfl)) rfl rfl) rfl) (m_op om_add (m_var (i := 7) rfl (by first | exact Or.inl rfl | exact Or.inr (Or.inl rfl) | exact Or.inr (Or.inr rfl)) rfl rfl) (m_var (i := 9) rfl (by first | exact Or.inl rfl | exact Or.inr (Or.inl rfl) | exact Or.inr (Or.inr rfl)) rfl rfl)) m_non) (mg_name (i := 10) sc_law.nd rfl (by first | exact Or.inl rfl | exact Or.inr rfl) (by first | exact Or.inl rfl | exact Or.inr rfl)) rfl rfl rfl)
    (ms_one (ms_if (m_cmpT (om_ne (hu64 hr)) (m_gc (m_reprL hgd (hu80 hr) (by rfl) (T.n_repr) (m_lst (m_aCons (g_call c_first_repeat hr hgd (takes_of rfl rfl rfl rfl) (fun _ _ F1 => bi_first_repeat F1) (m_aCons (m_var (i := 3) rfl (by first | exact Or.inl rfl | exact Or.inr (Or.inl rfl) | exact Or.inr (Or.inr rfl)) rfl rfl) (m_aCons (m_var (i := 7) rfl (by first | exact Or.inl rfl | exact Or.inr (Or.inl rfl) | exact Or.inr (Or.inr rfl)) rfl rfl) m_aNil rfl) rfl)) (m_aCons (g_callK0 (ks := ["number", "chart"]) c_first_repeat hr hgd (takes_of rfl rfl rfl rfl) (fun _ _ F1 => kw_6 F1) (m_kCons (m_var (i := 7) rfl (by first | exact Or.inl rfl | exact Or.inr (Or.inl rfl) | exact Or.inr (Or.inr rfl)) rfl rfl) (m_kCons (m_var (i := 3) rfl (by first | exact Or.inl rfl | exact Or.inr (Or.inl rfl) | exact Or.inr (Or.inr rfl)) rfl rfl) m_kNil)) (aCons_len (aCons_len aNil_len))) m_aNil rfl) rfl)) (by rfl) (by rfl))) (m_gc (m_reprL hgd (hu80 hr) (by rfl) (T.n_repr) (m_lst (m_aCons (m_var (i := 10) rfl (by first | exact Or.inl rfl | exact Or.inr (Or.inl rfl) | exact Or.inr (Or.inr rfl)) rfl rfl) (m_aCons (m_var (i := 10) rfl (by first | exact Or.inl rfl | exact Or.inr (Or.inl rfl) | exact Or.inr (Or.inr rfl)) rfl rfl) m_aNil rfl) rfl)) (by rfl) (by rfl))) rfl) (ms_one (ms_ret m_bl)) ms_nil))) (fun h1 h2 h3 h4 h5 => ps_for h1 h2 h3 h4 h5))))))))))))) (fun h1 h2 h3 h4 h5 => ps_for h1 h2 h3 h4 h5))
    (ms_one (ms_ret m_bl)))
end
theorem all_mk {l : PySem.W.OpenLaw} {w : World} {K : PySem.W.Frag} {h : Heap} {mg : Str → Option Value} {fa : Addr} (X : K.In h) (G : h.Ns mainGlobals mg) (hfa : mg "law" = some (.ref fa))
  {f__law_cup : Addr} {od__law_cup an__law_cup : Option Addr} {sl__law_cup : Array (Option Value)} {oc__law_cup kV__law_cup dc__law_cup pm__law_cup cd__law_cup ct__law_cup : Value} {f__law_sip : Addr} {od__law_sip an__law_sip : Option Addr} {sl__law_sip : Array (Option Value)} {oc__law_sip kV__law_sip dc__law_sip pm__law_sip cd__law_sip ct__law_sip : Value} {f__law_row : Addr} {od__law_row an__law_row : Option Addr} {sl__law_row : Array (Option Value)} {oc__law_row kV__law_row dc__law_row pm__law_row cd__law_row ct__law_row : Value} {f__law_chart : Addr} {od__law_chart an__law_chart : Option Addr} {sl__law_chart : Array (Option Value)} {oc__law_chart kV__law_chart dc__law_chart pm__law_chart cd__law_chart ct__law_chart : Value} {f__law_way : Addr} {od__law_way an__law_way : Option Addr} {sl__law_way : Array (Option Value)} {oc__law_way kV__law_way dc__law_way pm__law_way cd__law_way ct__law_way : Value} {f__law_rings : Addr} {od__law_rings an__law_rings : Option Addr} {sl__law_rings : Array (Option Value)} {oc__law_rings kV__law_rings dc__law_rings pm__law_rings cd__law_rings ct__law_rings : Value} {f_is_integer : Addr} {od_is_integer an_is_integer : Option Addr} {sl_is_integer : Array (Option Value)} {oc_is_integer kV_is_integer dc_is_integer pm_is_integer cd_is_integer ct_is_integer : Value} {f_is_between : Addr} {od_is_between an_is_between : Option Addr} {sl_is_between : Array (Option Value)} {oc_is_between kV_is_between dc_is_between pm_is_between cd_is_between ct_is_between : Value} {f_is_chart : Addr} {od_is_chart an_is_chart : Option Addr} {sl_is_chart : Array (Option Value)} {oc_is_chart kV_is_chart dc_is_chart pm_is_chart cd_is_chart ct_is_chart : Value} {f_check_chart : Addr} {od_check_chart an_check_chart : Option Addr} {sl_check_chart : Array (Option Value)} {oc_check_chart kV_check_chart dc_check_chart pm_check_chart cd_check_chart ct_check_chart : Value} {f_image_of : Addr} {od_image_of an_image_of : Option Addr} {sl_image_of : Array (Option Value)} {oc_image_of kV_image_of dc_image_of pm_image_of cd_image_of ct_image_of : Value} {f_behind_of : Addr} {od_behind_of an_behind_of : Option Addr} {sl_behind_of : Array (Option Value)} {oc_behind_of kV_behind_of dc_behind_of pm_behind_of cd_behind_of ct_behind_of : Value} {f_step_of : Addr} {od_step_of an_step_of : Option Addr} {sl_step_of : Array (Option Value)} {oc_step_of kV_step_of dc_step_of pm_step_of cd_step_of ct_step_of : Value} {f_on_rings_of : Addr} {od_on_rings_of an_on_rings_of : Option Addr} {sl_on_rings_of : Array (Option Value)} {oc_on_rings_of kV_on_rings_of dc_on_rings_of pm_on_rings_of cd_on_rings_of ct_on_rings_of : Value} {f_way_of : Addr} {od_way_of an_way_of : Option Addr} {sl_way_of : Array (Option Value)} {oc_way_of kV_way_of dc_way_of pm_way_of cd_way_of ct_way_of : Value} {f_depths_of : Addr} {od_depths_of an_depths_of : Option Addr} {sl_depths_of : Array (Option Value)} {oc_depths_of kV_depths_of dc_depths_of pm_depths_of cd_depths_of ct_depths_of : Value} {f_depths : Addr} {od_depths an_depths : Option Addr} {sl_depths : Array (Option Value)} {oc_depths kV_depths dc_depths pm_depths cd_depths ct_depths : Value} {f__law_least : Addr} {od__law_least an__law_least : Option Addr} {sl__law_least : Array (Option Value)} {oc__law_least kV__law_least dc__law_least pm__law_least cd__law_least ct__law_least : Value} {f_height_of : Addr} {od_height_of an_height_of : Option Addr} {sl_height_of : Array (Option Value)} {oc_height_of kV_height_of dc_height_of pm_height_of cd_height_of ct_height_of : Value} {f_height : Addr} {od_height an_height : Option Addr} {sl_height : Array (Option Value)} {oc_height kV_height dc_height pm_height cd_height ct_height : Value} {f_ring_at : Addr} {od_ring_at an_ring_at : Option Addr} {sl_ring_at : Array (Option Value)} {oc_ring_at kV_ring_at dc_ring_at pm_ring_at cd_ring_at ct_ring_at : Value} {f_rings_of : Addr} {od_rings_of an_rings_of : Option Addr} {sl_rings_of : Array (Option Value)} {oc_rings_of kV_rings_of dc_rings_of pm_rings_of cd_rings_of ct_rings_of : Value} {f_period_of : Addr} {od_period_of an_period_of : Option Addr} {sl_period_of : Array (Option Value)} {oc_period_of kV_period_of dc_period_of pm_period_of cd_period_of ct_period_of : Value} {f_period : Addr} {od_period an_period : Option Addr} {sl_period : Array (Option Value)} {oc_period kV_period dc_period pm_period cd_period ct_period : Value} {f_check_place : Addr} {od_check_place an_check_place : Option Addr} {sl_check_place : Array (Option Value)} {oc_check_place kV_check_place dc_check_place pm_check_place cd_check_place ct_check_place : Value} {f_depth : Addr} {od_depth an_depth : Option Addr} {sl_depth : Array (Option Value)} {oc_depth kV_depth dc_depth pm_depth cd_depth ct_depth : Value} {f_children_of : Addr} {od_children_of an_children_of : Option Addr} {sl_children_of : Array (Option Value)} {oc_children_of kV_children_of dc_children_of pm_children_of cd_children_of ct_children_of : Value} {f_children : Addr} {od_children an_children : Option Addr} {sl_children : Array (Option Value)} {oc_children kV_children dc_children pm_children cd_children ct_children : Value} {f_tree_of : Addr} {od_tree_of an_tree_of : Option Addr} {sl_tree_of : Array (Option Value)} {oc_tree_of kV_tree_of dc_tree_of pm_tree_of cd_tree_of ct_tree_of : Value} {f_tree_over : Addr} {od_tree_over an_tree_over : Option Addr} {sl_tree_over : Array (Option Value)} {oc_tree_over kV_tree_over dc_tree_over pm_tree_over cd_tree_over ct_tree_over : Value} {f__law_places_right : Addr} {od__law_places_right an__law_places_right : Option Addr} {sl__law_places_right : Array (Option Value)} {oc__law_places_right kV__law_places_right dc__law_places_right pm__law_places_right cd__law_places_right ct__law_places_right : Value} {f__law_number : Addr} {od__law_number an__law_number : Option Addr} {sl__law_number : Array (Option Value)} {oc__law_number kV__law_number dc__law_number pm__law_number cd__law_number ct__law_number : Value} {f_is_from : Addr} {od_is_from an_is_from : Option Addr} {sl_is_from : Array (Option Value)} {oc_is_from kV_is_from dc_is_from pm_is_from cd_is_from ct_is_from : Value} {f_check_number : Addr} {od_check_number an_check_number : Option Addr} {sl_check_number : Array (Option Value)} {oc_check_number kV_check_number dc_check_number pm_check_number cd_check_number ct_check_number : Value} {f_first_repeat : Addr} {od_first_repeat an_first_repeat : Option Addr} {sl_first_repeat : Array (Option Value)} {oc_first_repeat kV_first_repeat dc_first_repeat pm_first_repeat cd_first_repeat ct_first_repeat : Value} {f_law : Addr} {od_law an_law : Option Addr} {sl_law : Array (Option Value)} {oc_law kV_law dc_law pm_law cd_law ct_law : Value} {t_MOST_PLACES : Tok}
  (a__law_cup : PySem.W.nsIn K mainGlobals "_law_cup" = some (some (.ref f__law_cup)))
  (l__law_cup : K.lookup f__law_cup = some ⟨oc__law_cup, od__law_cup, .func (PySem.W.fnOf "_law_cup" "_law_cup" (defArgs s__law_cup) (defBody s__law_cup) (defScope s__law_cup) .none kV__law_cup dc__law_cup pm__law_cup an__law_cup cd__law_cup ct__law_cup), sl__law_cup⟩)
  (k__law_cup : PySem.W.codeIn K cd__law_cup "_law_cup" = true) (p__law_cup : PySem.W.keepIn K (.ref f__law_cup) = true)
  (a__law_sip : PySem.W.nsIn K mainGlobals "_law_sip" = some (some (.ref f__law_sip)))
  (l__law_sip : K.lookup f__law_sip = some ⟨oc__law_sip, od__law_sip, .func (PySem.W.fnOf "_law_sip" "_law_sip" (defArgs s__law_sip) (defBody s__law_sip) (defScope s__law_sip) .none kV__law_sip dc__law_sip pm__law_sip an__law_sip cd__law_sip ct__law_sip), sl__law_sip⟩)
  (k__law_sip : PySem.W.codeIn K cd__law_sip "_law_sip" = true) (p__law_sip : PySem.W.keepIn K (.ref f__law_sip) = true)
  (a__law_row : PySem.W.nsIn K mainGlobals "_law_row" = some (some (.ref f__law_row)))
  (l__law_row : K.lookup f__law_row = some ⟨oc__law_row, od__law_row, .func (PySem.W.fnOf "_law_row" "_law_row" (defArgs s__law_row) (defBody s__law_row) (defScope s__law_row) .none kV__law_row dc__law_row pm__law_row an__law_row cd__law_row ct__law_row), sl__law_row⟩)
  (k__law_row : PySem.W.codeIn K cd__law_row "_law_row" = true) (p__law_row : PySem.W.keepIn K (.ref f__law_row) = true)
  (a__law_chart : PySem.W.nsIn K mainGlobals "_law_chart" = some (some (.ref f__law_chart)))
  (l__law_chart : K.lookup f__law_chart = some ⟨oc__law_chart, od__law_chart, .func (PySem.W.fnOf "_law_chart" "_law_chart" (defArgs s__law_chart) (defBody s__law_chart) (defScope s__law_chart) .none kV__law_chart dc__law_chart pm__law_chart an__law_chart cd__law_chart ct__law_chart), sl__law_chart⟩)
  (k__law_chart : PySem.W.codeIn K cd__law_chart "_law_chart" = true) (p__law_chart : PySem.W.keepIn K (.ref f__law_chart) = true)
  (a__law_way : PySem.W.nsIn K mainGlobals "_law_way" = some (some (.ref f__law_way)))
  (l__law_way : K.lookup f__law_way = some ⟨oc__law_way, od__law_way, .func (PySem.W.fnOf "_law_way" "_law_way" (defArgs s__law_way) (defBody s__law_way) (defScope s__law_way) .none kV__law_way dc__law_way pm__law_way an__law_way cd__law_way ct__law_way), sl__law_way⟩)
  (k__law_way : PySem.W.codeIn K cd__law_way "_law_way" = true) (p__law_way : PySem.W.keepIn K (.ref f__law_way) = true)
  (a__law_rings : PySem.W.nsIn K mainGlobals "_law_rings" = some (some (.ref f__law_rings)))
  (l__law_rings : K.lookup f__law_rings = some ⟨oc__law_rings, od__law_rings, .func (PySem.W.fnOf "_law_rings" "_law_rings" (defArgs s__law_rings) (defBody s__law_rings) (defScope s__law_rings) .none kV__law_rings dc__law_rings pm__law_rings an__law_rings cd__law_rings ct__law_rings), sl__law_rings⟩)
  (k__law_rings : PySem.W.codeIn K cd__law_rings "_law_rings" = true) (p__law_rings : PySem.W.keepIn K (.ref f__law_rings) = true)
  (a_is_integer : PySem.W.nsIn K mainGlobals "is_integer" = some (some (.ref f_is_integer)))
  (l_is_integer : K.lookup f_is_integer = some ⟨oc_is_integer, od_is_integer, .func (PySem.W.fnOf "is_integer" "is_integer" (defArgs s_is_integer) (defBody s_is_integer) (defScope s_is_integer) .none kV_is_integer dc_is_integer pm_is_integer an_is_integer cd_is_integer ct_is_integer), sl_is_integer⟩)
  (k_is_integer : PySem.W.codeIn K cd_is_integer "is_integer" = true) (p_is_integer : PySem.W.keepIn K (.ref f_is_integer) = true)
  (a_is_between : PySem.W.nsIn K mainGlobals "is_between" = some (some (.ref f_is_between)))
  (l_is_between : K.lookup f_is_between = some ⟨oc_is_between, od_is_between, .func (PySem.W.fnOf "is_between" "is_between" (defArgs s_is_between) (defBody s_is_between) (defScope s_is_between) .none kV_is_between dc_is_between pm_is_between an_is_between cd_is_between ct_is_between), sl_is_between⟩)
  (k_is_between : PySem.W.codeIn K cd_is_between "is_between" = true) (p_is_between : PySem.W.keepIn K (.ref f_is_between) = true)
  (a_is_chart : PySem.W.nsIn K mainGlobals "is_chart" = some (some (.ref f_is_chart)))
  (l_is_chart : K.lookup f_is_chart = some ⟨oc_is_chart, od_is_chart, .func (PySem.W.fnOf "is_chart" "is_chart" (defArgs s_is_chart) (defBody s_is_chart) (defScope s_is_chart) .none kV_is_chart dc_is_chart pm_is_chart an_is_chart cd_is_chart ct_is_chart), sl_is_chart⟩)
  (k_is_chart : PySem.W.codeIn K cd_is_chart "is_chart" = true) (p_is_chart : PySem.W.keepIn K (.ref f_is_chart) = true)
  (a_check_chart : PySem.W.nsIn K mainGlobals "check_chart" = some (some (.ref f_check_chart)))
  (l_check_chart : K.lookup f_check_chart = some ⟨oc_check_chart, od_check_chart, .func (PySem.W.fnOf "check_chart" "check_chart" (defArgs s_check_chart) (defBody s_check_chart) (defScope s_check_chart) .none kV_check_chart dc_check_chart pm_check_chart an_check_chart cd_check_chart ct_check_chart), sl_check_chart⟩)
  (k_check_chart : PySem.W.codeIn K cd_check_chart "check_chart" = true) (p_check_chart : PySem.W.keepIn K (.ref f_check_chart) = true)
  (a_image_of : PySem.W.nsIn K mainGlobals "image_of" = some (some (.ref f_image_of)))
  (l_image_of : K.lookup f_image_of = some ⟨oc_image_of, od_image_of, .func (PySem.W.fnOf "image_of" "image_of" (defArgs s_image_of) (defBody s_image_of) (defScope s_image_of) .none kV_image_of dc_image_of pm_image_of an_image_of cd_image_of ct_image_of), sl_image_of⟩)
  (k_image_of : PySem.W.codeIn K cd_image_of "image_of" = true) (p_image_of : PySem.W.keepIn K (.ref f_image_of) = true)
  (a_behind_of : PySem.W.nsIn K mainGlobals "behind_of" = some (some (.ref f_behind_of)))
  (l_behind_of : K.lookup f_behind_of = some ⟨oc_behind_of, od_behind_of, .func (PySem.W.fnOf "behind_of" "behind_of" (defArgs s_behind_of) (defBody s_behind_of) (defScope s_behind_of) .none kV_behind_of dc_behind_of pm_behind_of an_behind_of cd_behind_of ct_behind_of), sl_behind_of⟩)
  (k_behind_of : PySem.W.codeIn K cd_behind_of "behind_of" = true) (p_behind_of : PySem.W.keepIn K (.ref f_behind_of) = true)
  (a_step_of : PySem.W.nsIn K mainGlobals "step_of" = some (some (.ref f_step_of)))
  (l_step_of : K.lookup f_step_of = some ⟨oc_step_of, od_step_of, .func (PySem.W.fnOf "step_of" "step_of" (defArgs s_step_of) (defBody s_step_of) (defScope s_step_of) .none kV_step_of dc_step_of pm_step_of an_step_of cd_step_of ct_step_of), sl_step_of⟩)
  (k_step_of : PySem.W.codeIn K cd_step_of "step_of" = true) (p_step_of : PySem.W.keepIn K (.ref f_step_of) = true)
  (a_on_rings_of : PySem.W.nsIn K mainGlobals "on_rings_of" = some (some (.ref f_on_rings_of)))
  (l_on_rings_of : K.lookup f_on_rings_of = some ⟨oc_on_rings_of, od_on_rings_of, .func (PySem.W.fnOf "on_rings_of" "on_rings_of" (defArgs s_on_rings_of) (defBody s_on_rings_of) (defScope s_on_rings_of) .none kV_on_rings_of dc_on_rings_of pm_on_rings_of an_on_rings_of cd_on_rings_of ct_on_rings_of), sl_on_rings_of⟩)
  (k_on_rings_of : PySem.W.codeIn K cd_on_rings_of "on_rings_of" = true) (p_on_rings_of : PySem.W.keepIn K (.ref f_on_rings_of) = true)
  (a_way_of : PySem.W.nsIn K mainGlobals "way_of" = some (some (.ref f_way_of)))
  (l_way_of : K.lookup f_way_of = some ⟨oc_way_of, od_way_of, .func (PySem.W.fnOf "way_of" "way_of" (defArgs s_way_of) (defBody s_way_of) (defScope s_way_of) .none kV_way_of dc_way_of pm_way_of an_way_of cd_way_of ct_way_of), sl_way_of⟩)
  (k_way_of : PySem.W.codeIn K cd_way_of "way_of" = true) (p_way_of : PySem.W.keepIn K (.ref f_way_of) = true)
  (a_depths_of : PySem.W.nsIn K mainGlobals "depths_of" = some (some (.ref f_depths_of)))
  (l_depths_of : K.lookup f_depths_of = some ⟨oc_depths_of, od_depths_of, .func (PySem.W.fnOf "depths_of" "depths_of" (defArgs s_depths_of) (defBody s_depths_of) (defScope s_depths_of) .none kV_depths_of dc_depths_of pm_depths_of an_depths_of cd_depths_of ct_depths_of), sl_depths_of⟩)
  (k_depths_of : PySem.W.codeIn K cd_depths_of "depths_of" = true) (p_depths_of : PySem.W.keepIn K (.ref f_depths_of) = true)
  (a_depths : PySem.W.nsIn K mainGlobals "depths" = some (some (.ref f_depths)))
  (l_depths : K.lookup f_depths = some ⟨oc_depths, od_depths, .func (PySem.W.fnOf "depths" "depths" (defArgs s_depths) (defBody s_depths) (defScope s_depths) .none kV_depths dc_depths pm_depths an_depths cd_depths ct_depths), sl_depths⟩)
  (k_depths : PySem.W.codeIn K cd_depths "depths" = true) (p_depths : PySem.W.keepIn K (.ref f_depths) = true)
  (a__law_least : PySem.W.nsIn K mainGlobals "_law_least" = some (some (.ref f__law_least)))
  (l__law_least : K.lookup f__law_least = some ⟨oc__law_least, od__law_least, .func (PySem.W.fnOf "_law_least" "_law_least" (defArgs s__law_least) (defBody s__law_least) (defScope s__law_least) .none kV__law_least dc__law_least pm__law_least an__law_least cd__law_least ct__law_least), sl__law_least⟩)
  (k__law_least : PySem.W.codeIn K cd__law_least "_law_least" = true) (p__law_least : PySem.W.keepIn K (.ref f__law_least) = true)
  (a_height_of : PySem.W.nsIn K mainGlobals "height_of" = some (some (.ref f_height_of)))
  (l_height_of : K.lookup f_height_of = some ⟨oc_height_of, od_height_of, .func (PySem.W.fnOf "height_of" "height_of" (defArgs s_height_of) (defBody s_height_of) (defScope s_height_of) .none kV_height_of dc_height_of pm_height_of an_height_of cd_height_of ct_height_of), sl_height_of⟩)
  (k_height_of : PySem.W.codeIn K cd_height_of "height_of" = true) (p_height_of : PySem.W.keepIn K (.ref f_height_of) = true)
  (a_height : PySem.W.nsIn K mainGlobals "height" = some (some (.ref f_height)))
  (l_height : K.lookup f_height = some ⟨oc_height, od_height, .func (PySem.W.fnOf "height" "height" (defArgs s_height) (defBody s_height) (defScope s_height) .none kV_height dc_height pm_height an_height cd_height ct_height), sl_height⟩)
  (k_height : PySem.W.codeIn K cd_height "height" = true) (p_height : PySem.W.keepIn K (.ref f_height) = true)
  (a_ring_at : PySem.W.nsIn K mainGlobals "ring_at" = some (some (.ref f_ring_at)))
  (l_ring_at : K.lookup f_ring_at = some ⟨oc_ring_at, od_ring_at, .func (PySem.W.fnOf "ring_at" "ring_at" (defArgs s_ring_at) (defBody s_ring_at) (defScope s_ring_at) .none kV_ring_at dc_ring_at pm_ring_at an_ring_at cd_ring_at ct_ring_at), sl_ring_at⟩)
  (k_ring_at : PySem.W.codeIn K cd_ring_at "ring_at" = true) (p_ring_at : PySem.W.keepIn K (.ref f_ring_at) = true)
  (a_rings_of : PySem.W.nsIn K mainGlobals "rings_of" = some (some (.ref f_rings_of)))
  (l_rings_of : K.lookup f_rings_of = some ⟨oc_rings_of, od_rings_of, .func (PySem.W.fnOf "rings_of" "rings_of" (defArgs s_rings_of) (defBody s_rings_of) (defScope s_rings_of) .none kV_rings_of dc_rings_of pm_rings_of an_rings_of cd_rings_of ct_rings_of), sl_rings_of⟩)
  (k_rings_of : PySem.W.codeIn K cd_rings_of "rings_of" = true) (p_rings_of : PySem.W.keepIn K (.ref f_rings_of) = true)
  (a_period_of : PySem.W.nsIn K mainGlobals "period_of" = some (some (.ref f_period_of)))
  (l_period_of : K.lookup f_period_of = some ⟨oc_period_of, od_period_of, .func (PySem.W.fnOf "period_of" "period_of" (defArgs s_period_of) (defBody s_period_of) (defScope s_period_of) .none kV_period_of dc_period_of pm_period_of an_period_of cd_period_of ct_period_of), sl_period_of⟩)
  (k_period_of : PySem.W.codeIn K cd_period_of "period_of" = true) (p_period_of : PySem.W.keepIn K (.ref f_period_of) = true)
  (a_period : PySem.W.nsIn K mainGlobals "period" = some (some (.ref f_period)))
  (l_period : K.lookup f_period = some ⟨oc_period, od_period, .func (PySem.W.fnOf "period" "period" (defArgs s_period) (defBody s_period) (defScope s_period) .none kV_period dc_period pm_period an_period cd_period ct_period), sl_period⟩)
  (k_period : PySem.W.codeIn K cd_period "period" = true) (p_period : PySem.W.keepIn K (.ref f_period) = true)
  (a_check_place : PySem.W.nsIn K mainGlobals "check_place" = some (some (.ref f_check_place)))
  (l_check_place : K.lookup f_check_place = some ⟨oc_check_place, od_check_place, .func (PySem.W.fnOf "check_place" "check_place" (defArgs s_check_place) (defBody s_check_place) (defScope s_check_place) .none kV_check_place dc_check_place pm_check_place an_check_place cd_check_place ct_check_place), sl_check_place⟩)
  (k_check_place : PySem.W.codeIn K cd_check_place "check_place" = true) (p_check_place : PySem.W.keepIn K (.ref f_check_place) = true)
  (a_depth : PySem.W.nsIn K mainGlobals "depth" = some (some (.ref f_depth)))
  (l_depth : K.lookup f_depth = some ⟨oc_depth, od_depth, .func (PySem.W.fnOf "depth" "depth" (defArgs s_depth) (defBody s_depth) (defScope s_depth) .none kV_depth dc_depth pm_depth an_depth cd_depth ct_depth), sl_depth⟩)
  (k_depth : PySem.W.codeIn K cd_depth "depth" = true) (p_depth : PySem.W.keepIn K (.ref f_depth) = true)
  (a_children_of : PySem.W.nsIn K mainGlobals "children_of" = some (some (.ref f_children_of)))
  (l_children_of : K.lookup f_children_of = some ⟨oc_children_of, od_children_of, .func (PySem.W.fnOf "children_of" "children_of" (defArgs s_children_of) (defBody s_children_of) (defScope s_children_of) .none kV_children_of dc_children_of pm_children_of an_children_of cd_children_of ct_children_of), sl_children_of⟩)
  (k_children_of : PySem.W.codeIn K cd_children_of "children_of" = true) (p_children_of : PySem.W.keepIn K (.ref f_children_of) = true)
  (a_children : PySem.W.nsIn K mainGlobals "children" = some (some (.ref f_children)))
  (l_children : K.lookup f_children = some ⟨oc_children, od_children, .func (PySem.W.fnOf "children" "children" (defArgs s_children) (defBody s_children) (defScope s_children) .none kV_children dc_children pm_children an_children cd_children ct_children), sl_children⟩)
  (k_children : PySem.W.codeIn K cd_children "children" = true) (p_children : PySem.W.keepIn K (.ref f_children) = true)
  (a_tree_of : PySem.W.nsIn K mainGlobals "tree_of" = some (some (.ref f_tree_of)))
  (l_tree_of : K.lookup f_tree_of = some ⟨oc_tree_of, od_tree_of, .func (PySem.W.fnOf "tree_of" "tree_of" (defArgs s_tree_of) (defBody s_tree_of) (defScope s_tree_of) .none kV_tree_of dc_tree_of pm_tree_of an_tree_of cd_tree_of ct_tree_of), sl_tree_of⟩)
  (k_tree_of : PySem.W.codeIn K cd_tree_of "tree_of" = true) (p_tree_of : PySem.W.keepIn K (.ref f_tree_of) = true)
  (a_tree_over : PySem.W.nsIn K mainGlobals "tree_over" = some (some (.ref f_tree_over)))
  (l_tree_over : K.lookup f_tree_over = some ⟨oc_tree_over, od_tree_over, .func (PySem.W.fnOf "tree_over" "tree_over" (defArgs s_tree_over) (defBody s_tree_over) (defScope s_tree_over) .none kV_tree_over dc_tree_over pm_tree_over an_tree_over cd_tree_over ct_tree_over), sl_tree_over⟩)
  (k_tree_over : PySem.W.codeIn K cd_tree_over "tree_over" = true) (p_tree_over : PySem.W.keepIn K (.ref f_tree_over) = true)
  (a__law_places_right : PySem.W.nsIn K mainGlobals "_law_places_right" = some (some (.ref f__law_places_right)))
  (l__law_places_right : K.lookup f__law_places_right = some ⟨oc__law_places_right, od__law_places_right, .func (PySem.W.fnOf "_law_places_right" "_law_places_right" (defArgs s__law_places_right) (defBody s__law_places_right) (defScope s__law_places_right) .none kV__law_places_right dc__law_places_right pm__law_places_right an__law_places_right cd__law_places_right ct__law_places_right), sl__law_places_right⟩)
  (k__law_places_right : PySem.W.codeIn K cd__law_places_right "_law_places_right" = true) (p__law_places_right : PySem.W.keepIn K (.ref f__law_places_right) = true)
  (a__law_number : PySem.W.nsIn K mainGlobals "_law_number" = some (some (.ref f__law_number)))
  (l__law_number : K.lookup f__law_number = some ⟨oc__law_number, od__law_number, .func (PySem.W.fnOf "_law_number" "_law_number" (defArgs s__law_number) (defBody s__law_number) (defScope s__law_number) .none kV__law_number dc__law_number pm__law_number an__law_number cd__law_number ct__law_number), sl__law_number⟩)
  (k__law_number : PySem.W.codeIn K cd__law_number "_law_number" = true) (p__law_number : PySem.W.keepIn K (.ref f__law_number) = true)
  (a_is_from : PySem.W.nsIn K mainGlobals "is_from" = some (some (.ref f_is_from)))
  (l_is_from : K.lookup f_is_from = some ⟨oc_is_from, od_is_from, .func (PySem.W.fnOf "is_from" "is_from" (defArgs s_is_from) (defBody s_is_from) (defScope s_is_from) .none kV_is_from dc_is_from pm_is_from an_is_from cd_is_from ct_is_from), sl_is_from⟩)
  (k_is_from : PySem.W.codeIn K cd_is_from "is_from" = true) (p_is_from : PySem.W.keepIn K (.ref f_is_from) = true)
  (a_check_number : PySem.W.nsIn K mainGlobals "check_number" = some (some (.ref f_check_number)))
  (l_check_number : K.lookup f_check_number = some ⟨oc_check_number, od_check_number, .func (PySem.W.fnOf "check_number" "check_number" (defArgs s_check_number) (defBody s_check_number) (defScope s_check_number) .none kV_check_number dc_check_number pm_check_number an_check_number cd_check_number ct_check_number), sl_check_number⟩)
  (k_check_number : PySem.W.codeIn K cd_check_number "check_number" = true) (p_check_number : PySem.W.keepIn K (.ref f_check_number) = true)
  (a_first_repeat : PySem.W.nsIn K mainGlobals "first_repeat" = some (some (.ref f_first_repeat)))
  (l_first_repeat : K.lookup f_first_repeat = some ⟨oc_first_repeat, od_first_repeat, .func (PySem.W.fnOf "first_repeat" "first_repeat" (defArgs s_first_repeat) (defBody s_first_repeat) (defScope s_first_repeat) .none kV_first_repeat dc_first_repeat pm_first_repeat an_first_repeat cd_first_repeat ct_first_repeat), sl_first_repeat⟩)
  (k_first_repeat : PySem.W.codeIn K cd_first_repeat "first_repeat" = true) (p_first_repeat : PySem.W.keepIn K (.ref f_first_repeat) = true)
  (a_law : PySem.W.nsIn K mainGlobals "law" = some (some (.ref f_law)))
  (l_law : K.lookup f_law = some ⟨oc_law, od_law, .func (PySem.W.fnOf "law" "law" (defArgs s_law) (defBody s_law) (defScope s_law) .none kV_law dc_law pm_law an_law cd_law ct_law), sl_law⟩)
  (k_law : PySem.W.codeIn K cd_law "law" = true) (p_law : PySem.W.keepIn K (.ref f_law) = true)
  (z_all : PySem.W.nsIn K mainGlobals "all" = some none)
  (z_any : PySem.W.nsIn K mainGlobals "any" = some none)
  (z_bool : PySem.W.nsIn K mainGlobals "bool" = some none)
  (z_enumerate : PySem.W.nsIn K mainGlobals "enumerate" = some none)
  (z_int : PySem.W.nsIn K mainGlobals "int" = some none)
  (z_isinstance : PySem.W.nsIn K mainGlobals "isinstance" = some none)
  (z_len : PySem.W.nsIn K mainGlobals "len" = some none)
  (z_list : PySem.W.nsIn K mainGlobals "list" = some none)
  (z_max : PySem.W.nsIn K mainGlobals "max" = some none)
  (z_min : PySem.W.nsIn K mainGlobals "min" = some none)
  (z_range : PySem.W.nsIn K mainGlobals "range" = some none)
  (z_repr : PySem.W.nsIn K mainGlobals "repr" = some none)
  (z_set : PySem.W.nsIn K mainGlobals "set" = some none)
  (z_sorted : PySem.W.nsIn K mainGlobals "sorted" = some none)
  (z_tuple : PySem.W.nsIn K mainGlobals "tuple" = some none)
  (g_MOST_PLACES : PySem.W.nsIn K mainGlobals "MOST_PLACES" = some (some (.int 10 t_MOST_PLACES)))
  (y_gcd : PySem.W.nsIn K mainGlobals "gcd" = some (some (.builtin "math.gcd"))) :
    ∃ (C : Cc) (fd : FuncData), (∀ (s : Shared) (v : Value), BindsTo s fd ⟨[v], []⟩ [("_law_script", v)]) ∧ ∀ base : Heap, K.In base → base.Ns mainGlobals mg → FnM l.prog w K mg base C 8 fa fd ["_law_script"] F_law := by
  have e := hfa.symm.trans (PySem.W.mg_of X G a_law)
  cases e
  have T : Bi mg := ⟨PySem.W.mg_none_of X G z_all, PySem.W.mg_none_of X G z_any, PySem.W.mg_none_of X G z_bool, PySem.W.mg_none_of X G z_enumerate, PySem.W.mg_none_of X G z_int, PySem.W.mg_none_of X G z_isinstance, PySem.W.mg_none_of X G z_len, PySem.W.mg_none_of X G z_list, PySem.W.mg_none_of X G z_max, PySem.W.mg_none_of X G z_min, PySem.W.mg_none_of X G z_range, PySem.W.mg_none_of X G z_repr, PySem.W.mg_none_of X G z_set, PySem.W.mg_none_of X G z_sorted, PySem.W.mg_none_of X G z_tuple, ⟨_, PySem.W.mg_of X G g_MOST_PLACES⟩, PySem.W.mg_of X G y_gcd⟩
  refine ⟨⟨fun _ => 0, fun _ => ""⟩, PySem.W.fnOf "law" "law" (defArgs s_law) (defBody s_law) (defScope s_law) .none kV_law dc_law pm_law an_law cd_law ct_law, fun s v => .of_eq rfl, fun base _ _ => ?_⟩
  have c__law_cup : CalM l.prog w K mg base ⟨fun _ => 0, fun _ => ""⟩ 1 "_law_cup" s__law_cup ["_law_cell"] F__law_cup := ⟨_, _, ok__law_cup (fun_mk (st := s__law_cup) l__law_cup k__law_cup p__law_cup) T , PySem.W.mg_of X G a__law_cup, fun_mk (st := s__law_cup) l__law_cup k__law_cup p__law_cup⟩
  have c__law_sip : CalM l.prog w K mg base ⟨fun _ => 0, fun _ => ""⟩ 1 "_law_sip" s__law_sip ["_law_cup_here", "_law_many"] F__law_sip := ⟨_, _, ok__law_sip (fun_mk (st := s__law_sip) l__law_sip k__law_sip p__law_sip) T , PySem.W.mg_of X G a__law_sip, fun_mk (st := s__law_sip) l__law_sip k__law_sip p__law_sip⟩
  have c__law_row : CalM l.prog w K mg base ⟨fun _ => 0, fun _ => ""⟩ 2 "_law_row" s__law_row ["_law_cup_here", "_law_many"] F__law_row := ⟨_, _, ok__law_row (fun_mk (st := s__law_row) l__law_row k__law_row p__law_row) T c__law_sip, PySem.W.mg_of X G a__law_row, fun_mk (st := s__law_row) l__law_row k__law_row p__law_row⟩
  have c__law_chart : CalM l.prog w K mg base ⟨fun _ => 0, fun _ => ""⟩ 3 "_law_chart" s__law_chart ["_law_cup_here", "_law_many"] F__law_chart := ⟨_, _, ok__law_chart (fun_mk (st := s__law_chart) l__law_chart k__law_chart p__law_chart) T c__law_sip c__law_row, PySem.W.mg_of X G a__law_chart, fun_mk (st := s__law_chart) l__law_chart k__law_chart p__law_chart⟩
  have c__law_way : CalM l.prog w K mg base ⟨fun _ => 0, fun _ => ""⟩ 1 "_law_way" s__law_way ["_law_chart_here", "_law_place"] F__law_way := ⟨_, _, ok__law_way (fun_mk (st := s__law_way) l__law_way k__law_way p__law_way) T , PySem.W.mg_of X G a__law_way, fun_mk (st := s__law_way) l__law_way k__law_way p__law_way⟩
  have c__law_rings : CalM l.prog w K mg base ⟨fun _ => 0, fun _ => ""⟩ 2 "_law_rings" s__law_rings ["_law_chart_here"] F__law_rings := ⟨_, _, ok__law_rings (fun_mk (st := s__law_rings) l__law_rings k__law_rings p__law_rings) T c__law_way, PySem.W.mg_of X G a__law_rings, fun_mk (st := s__law_rings) l__law_rings k__law_rings p__law_rings⟩
  have c_is_integer : CalM l.prog w K mg base ⟨fun _ => 0, fun _ => ""⟩ 1 "is_integer" s_is_integer ["value"] F_is_integer := ⟨_, _, ok_is_integer (fun_mk (st := s_is_integer) l_is_integer k_is_integer p_is_integer) T , PySem.W.mg_of X G a_is_integer, fun_mk (st := s_is_integer) l_is_integer k_is_integer p_is_integer⟩
  have c_is_between : CalM l.prog w K mg base ⟨fun _ => 0, fun _ => ""⟩ 2 "is_between" s_is_between ["low", "value", "high"] F_is_between := ⟨_, _, ok_is_between (fun_mk (st := s_is_between) l_is_between k_is_between p_is_between) T c_is_integer, PySem.W.mg_of X G a_is_between, fun_mk (st := s_is_between) l_is_between k_is_between p_is_between⟩
  have c_is_chart : CalM l.prog w K mg base ⟨fun _ => 0, fun _ => ""⟩ 3 "is_chart" s_is_chart ["value"] F_is_chart := ⟨_, _, ok_is_chart (fun_mk (st := s_is_chart) l_is_chart k_is_chart p_is_chart) T c_is_between, PySem.W.mg_of X G a_is_chart, fun_mk (st := s_is_chart) l_is_chart k_is_chart p_is_chart⟩
  have c_check_chart : CalM l.prog w K mg base ⟨fun _ => 0, fun _ => ""⟩ 4 "check_chart" s_check_chart ["value"] F_check_chart := ⟨_, _, ok_check_chart (fun_mk (st := s_check_chart) l_check_chart k_check_chart p_check_chart) T c_is_chart, PySem.W.mg_of X G a_check_chart, fun_mk (st := s_check_chart) l_check_chart k_check_chart p_check_chart⟩
  have c_image_of : CalM l.prog w K mg base ⟨fun _ => 0, fun _ => ""⟩ 1 "image_of" s_image_of ["chart"] F_image_of := ⟨_, _, ok_image_of (fun_mk (st := s_image_of) l_image_of k_image_of p_image_of) T , PySem.W.mg_of X G a_image_of, fun_mk (st := s_image_of) l_image_of k_image_of p_image_of⟩
  have c_behind_of : CalM l.prog w K mg base ⟨fun _ => 0, fun _ => ""⟩ 1 "behind_of" s_behind_of ["chart", "other"] F_behind_of := ⟨_, _, ok_behind_of (fun_mk (st := s_behind_of) l_behind_of k_behind_of p_behind_of) T , PySem.W.mg_of X G a_behind_of, fun_mk (st := s_behind_of) l_behind_of k_behind_of p_behind_of⟩
  have c_step_of : CalM l.prog w K mg base ⟨fun _ => 0, fun _ => ""⟩ 2 "step_of" s_step_of ["chart", "number"] F_step_of := ⟨_, _, ok_step_of (fun_mk (st := s_step_of) l_step_of k_step_of p_step_of) T c_behind_of, PySem.W.mg_of X G a_step_of, fun_mk (st := s_step_of) l_step_of k_step_of p_step_of⟩
  have c_on_rings_of : CalM l.prog w K mg base ⟨fun _ => 0, fun _ => ""⟩ 3 "on_rings_of" s_on_rings_of ["chart"] F_on_rings_of := ⟨_, _, ok_on_rings_of (fun_mk (st := s_on_rings_of) l_on_rings_of k_on_rings_of p_on_rings_of) T c_image_of c_step_of, PySem.W.mg_of X G a_on_rings_of, fun_mk (st := s_on_rings_of) l_on_rings_of k_on_rings_of p_on_rings_of⟩
  have c_way_of : CalM l.prog w K mg base ⟨fun _ => 0, fun _ => ""⟩ 1 "way_of" s_way_of ["chart", "place"] F_way_of := ⟨_, _, ok_way_of (fun_mk (st := s_way_of) l_way_of k_way_of p_way_of) T , PySem.W.mg_of X G a_way_of, fun_mk (st := s_way_of) l_way_of k_way_of p_way_of⟩
  have c_depths_of : CalM l.prog w K mg base ⟨fun _ => 0, fun _ => ""⟩ 4 "depths_of" s_depths_of ["chart"] F_depths_of := ⟨_, _, ok_depths_of (fun_mk (st := s_depths_of) l_depths_of k_depths_of p_depths_of) T c_on_rings_of c_way_of, PySem.W.mg_of X G a_depths_of, fun_mk (st := s_depths_of) l_depths_of k_depths_of p_depths_of⟩
  have c_depths : CalM l.prog w K mg base ⟨fun _ => 0, fun _ => ""⟩ 5 "depths" s_depths ["chart"] F_depths := ⟨_, _, ok_depths (fun_mk (st := s_depths) l_depths k_depths p_depths) T c_check_chart c_depths_of, PySem.W.mg_of X G a_depths, fun_mk (st := s_depths) l_depths k_depths p_depths⟩
  have c__law_least : CalM l.prog w K mg base ⟨fun _ => 0, fun _ => ""⟩ 1 "_law_least" s__law_least ["_law_lengths"] F__law_least := ⟨_, _, ok__law_least (fun_mk (st := s__law_least) l__law_least k__law_least p__law_least) T , PySem.W.mg_of X G a__law_least, fun_mk (st := s__law_least) l__law_least k__law_least p__law_least⟩
  have c_height_of : CalM l.prog w K mg base ⟨fun _ => 0, fun _ => ""⟩ 5 "height_of" s_height_of ["chart"] F_height_of := ⟨_, _, ok_height_of (fun_mk (st := s_height_of) l_height_of k_height_of p_height_of) T c_depths_of, PySem.W.mg_of X G a_height_of, fun_mk (st := s_height_of) l_height_of k_height_of p_height_of⟩
  have c_height : CalM l.prog w K mg base ⟨fun _ => 0, fun _ => ""⟩ 6 "height" s_height ["chart"] F_height := ⟨_, _, ok_height (fun_mk (st := s_height) l_height k_height p_height) T c_check_chart c_height_of, PySem.W.mg_of X G a_height, fun_mk (st := s_height) l_height k_height p_height⟩
  have c_ring_at : CalM l.prog w K mg base ⟨fun _ => 0, fun _ => ""⟩ 2 "ring_at" s_ring_at ["chart", "place"] F_ring_at := ⟨_, _, ok_ring_at (fun_mk (st := s_ring_at) l_ring_at k_ring_at p_ring_at) T c_way_of, PySem.W.mg_of X G a_ring_at, fun_mk (st := s_ring_at) l_ring_at k_ring_at p_ring_at⟩
  have c_rings_of : CalM l.prog w K mg base ⟨fun _ => 0, fun _ => ""⟩ 4 "rings_of" s_rings_of ["chart"] F_rings_of := ⟨_, _, ok_rings_of (fun_mk (st := s_rings_of) l_rings_of k_rings_of p_rings_of) T c_on_rings_of c_ring_at, PySem.W.mg_of X G a_rings_of, fun_mk (st := s_rings_of) l_rings_of k_rings_of p_rings_of⟩
  have c_period_of : CalM l.prog w K mg base ⟨fun _ => 0, fun _ => ""⟩ 5 "period_of" s_period_of ["chart"] F_period_of := ⟨_, _, ok_period_of (fun_mk (st := s_period_of) l_period_of k_period_of p_period_of) T c_rings_of, PySem.W.mg_of X G a_period_of, fun_mk (st := s_period_of) l_period_of k_period_of p_period_of⟩
  have c_period : CalM l.prog w K mg base ⟨fun _ => 0, fun _ => ""⟩ 6 "period" s_period ["chart"] F_period := ⟨_, _, ok_period (fun_mk (st := s_period) l_period k_period p_period) T c_check_chart c_period_of, PySem.W.mg_of X G a_period, fun_mk (st := s_period) l_period k_period p_period⟩
  have c_check_place : CalM l.prog w K mg base ⟨fun _ => 0, fun _ => ""⟩ 3 "check_place" s_check_place ["many", "value"] F_check_place := ⟨_, _, ok_check_place (fun_mk (st := s_check_place) l_check_place k_check_place p_check_place) T c_is_between, PySem.W.mg_of X G a_check_place, fun_mk (st := s_check_place) l_check_place k_check_place p_check_place⟩
  have c_depth : CalM l.prog w K mg base ⟨fun _ => 0, fun _ => ""⟩ 5 "depth" s_depth ["chart", "place"] F_depth := ⟨_, _, ok_depth (fun_mk (st := s_depth) l_depth k_depth p_depth) T c_check_chart c_check_place c_depths_of, PySem.W.mg_of X G a_depth, fun_mk (st := s_depth) l_depth k_depth p_depth⟩
  have c_children_of : CalM l.prog w K mg base ⟨fun _ => 0, fun _ => ""⟩ 4 "children_of" s_children_of ["chart"] F_children_of := ⟨_, _, ok_children_of (fun_mk (st := s_children_of) l_children_of k_children_of p_children_of) T c_on_rings_of, PySem.W.mg_of X G a_children_of, fun_mk (st := s_children_of) l_children_of k_children_of p_children_of⟩
  have c_children : CalM l.prog w K mg base ⟨fun _ => 0, fun _ => ""⟩ 5 "children" s_children ["chart", "place"] F_children := ⟨_, _, ok_children (fun_mk (st := s_children) l_children k_children p_children) T c_check_chart c_check_place c_children_of, PySem.W.mg_of X G a_children, fun_mk (st := s_children) l_children k_children p_children⟩
  have c_tree_of : CalM l.prog w K mg base ⟨fun _ => 0, fun _ => ""⟩ 5 "tree_of" s_tree_of ["chart", "place"] F_tree_of := ⟨_, _, ok_tree_of (fun_mk (st := s_tree_of) l_tree_of k_tree_of p_tree_of) T c_children_of, PySem.W.mg_of X G a_tree_of, fun_mk (st := s_tree_of) l_tree_of k_tree_of p_tree_of⟩
  have c_tree_over : CalM l.prog w K mg base ⟨fun _ => 0, fun _ => ""⟩ 6 "tree_over" s_tree_over ["chart", "place"] F_tree_over := ⟨_, _, ok_tree_over (fun_mk (st := s_tree_over) l_tree_over k_tree_over p_tree_over) T c_check_chart c_check_place c_tree_of, PySem.W.mg_of X G a_tree_over, fun_mk (st := s_tree_over) l_tree_over k_tree_over p_tree_over⟩
  have c__law_places_right : CalM l.prog w K mg base ⟨fun _ => 0, fun _ => ""⟩ 7 "_law_places_right" s__law_places_right ["_law_chart_here", "_law_there", "_law_dues"] F__law_places_right := ⟨_, _, ok__law_places_right (fun_mk (st := s__law_places_right) l__law_places_right k__law_places_right p__law_places_right) T c__law_way c_depth c_children c_tree_over, PySem.W.mg_of X G a__law_places_right, fun_mk (st := s__law_places_right) l__law_places_right k__law_places_right p__law_places_right⟩
  have c__law_number : CalM l.prog w K mg base ⟨fun _ => 0, fun _ => ""⟩ 2 "_law_number" s__law_number ["_law_cup_here"] F__law_number := ⟨_, _, ok__law_number (fun_mk (st := s__law_number) l__law_number k__law_number p__law_number) T c__law_sip, PySem.W.mg_of X G a__law_number, fun_mk (st := s__law_number) l__law_number k__law_number p__law_number⟩
  have c_is_from : CalM l.prog w K mg base ⟨fun _ => 0, fun _ => ""⟩ 2 "is_from" s_is_from ["low", "value"] F_is_from := ⟨_, _, ok_is_from (fun_mk (st := s_is_from) l_is_from k_is_from p_is_from) T c_is_integer, PySem.W.mg_of X G a_is_from, fun_mk (st := s_is_from) l_is_from k_is_from p_is_from⟩
  have c_check_number : CalM l.prog w K mg base ⟨fun _ => 0, fun _ => ""⟩ 3 "check_number" s_check_number ["value"] F_check_number := ⟨_, _, ok_check_number (fun_mk (st := s_check_number) l_check_number k_check_number p_check_number) T c_is_from, PySem.W.mg_of X G a_check_number, fun_mk (st := s_check_number) l_check_number k_check_number p_check_number⟩
  have c_first_repeat : CalM l.prog w K mg base ⟨fun _ => 0, fun _ => ""⟩ 6 "first_repeat" s_first_repeat ["chart", "number"] F_first_repeat := ⟨_, _, ok_first_repeat (fun_mk (st := s_first_repeat) l_first_repeat k_first_repeat p_first_repeat) T c_check_chart c_check_number c_height_of c_period_of, PySem.W.mg_of X G a_first_repeat, fun_mk (st := s_first_repeat) l_first_repeat k_first_repeat p_first_repeat⟩
  exact ok_law (fun_mk (st := s_law) l_law k_law p_law) T c__law_cup c__law_chart c__law_sip c__law_rings c__law_way c_depths c__law_least c_height c_period c__law_places_right c__law_number c_first_repeat
end LW

open PySem PySem.W PyProof.Rows in
set_option maxRecDepth 100000 in
set_option maxHeartbeats 0 in
theorem PySem.Challenge.cw_everynext_k06_depths_and_trees_holds : PySem.Challenge.rw_everynext_k06_depths_and_trees.Holds := by
  w_on; o_law; k_head; (case hw => w_witness2)
  k_fill
  refine MM.walk_M (l := PySem.Challenge.rw_everynext_k06_depths_and_trees) (k := 8) (x := "_law_script") (F := LW.F_law) (C := fun _ => ⟨fun _ => 0, fun _ => ""⟩) rfl rfl ⟨rfl, by decide, by decide⟩ (fun w h Y => PySem.W.kIn_of Y) ?F LW.holds
  case F =>
    intro w mg fa h KX G hmg
    refine' LW.all_mk KX G hmg ?a__law_cup ?l__law_cup ?k__law_cup ?p__law_cup ?a__law_sip ?l__law_sip ?k__law_sip ?p__law_sip ?a__law_row ?l__law_row ?k__law_row ?p__law_row ?a__law_chart ?l__law_chart ?k__law_chart ?p__law_chart ?a__law_way ?l__law_way ?k__law_way ?p__law_way ?a__law_rings ?l__law_rings ?k__law_rings ?p__law_rings ?a_is_integer ?l_is_integer ?k_is_integer ?p_is_integer ?a_is_between ?l_is_between ?k_is_between ?p_is_between ?a_is_chart ?l_is_chart ?k_is_chart ?p_is_chart ?a_check_chart ?l_check_chart ?k_check_chart ?p_check_chart ?a_image_of ?l_image_of ?k_image_of ?p_image_of ?a_behind_of ?l_behind_of ?k_behind_of ?p_behind_of ?a_step_of ?l_step_of ?k_step_of ?p_step_of ?a_on_rings_of ?l_on_rings_of ?k_on_rings_of ?p_on_rings_of ?a_way_of ?l_way_of ?k_way_of ?p_way_of ?a_depths_of ?l_depths_of ?k_depths_of ?p_depths_of ?a_depths ?l_depths ?k_depths ?p_depths ?a__law_least ?l__law_least ?k__law_least ?p__law_least ?a_height_of ?l_height_of ?k_height_of ?p_height_of ?a_height ?l_height ?k_height ?p_height ?a_ring_at ?l_ring_at ?k_ring_at ?p_ring_at ?a_rings_of ?l_rings_of ?k_rings_of ?p_rings_of ?a_period_of ?l_period_of ?k_period_of ?p_period_of ?a_period ?l_period ?k_period ?p_period ?a_check_place ?l_check_place ?k_check_place ?p_check_place ?a_depth ?l_depth ?k_depth ?p_depth ?a_children_of ?l_children_of ?k_children_of ?p_children_of ?a_children ?l_children ?k_children ?p_children ?a_tree_of ?l_tree_of ?k_tree_of ?p_tree_of ?a_tree_over ?l_tree_over ?k_tree_over ?p_tree_over ?a__law_places_right ?l__law_places_right ?k__law_places_right ?p__law_places_right ?a__law_number ?l__law_number ?k__law_number ?p__law_number ?a_is_from ?l_is_from ?k_is_from ?p_is_from ?a_check_number ?l_check_number ?k_check_number ?p_check_number ?a_first_repeat ?l_first_repeat ?k_first_repeat ?p_first_repeat ?a_law ?l_law ?k_law ?p_law ?z_all ?z_any ?z_bool ?z_enumerate ?z_int ?z_isinstance ?z_len ?z_list ?z_max ?z_min ?z_range ?z_repr ?z_set ?z_sorted ?z_tuple ?g_MOST_PLACES ?y_gcd
    (case a__law_cup => k_is)
    (case l__law_cup => k_is)
    (case k__law_cup => k_is)
    (case p__law_cup => k_is)
    (case a__law_sip => k_is)
    (case l__law_sip => k_is)
    (case k__law_sip => k_is)
    (case p__law_sip => k_is)
    (case a__law_row => k_is)
    (case l__law_row => k_is)
    (case k__law_row => k_is)
    (case p__law_row => k_is)
    (case a__law_chart => k_is)
    (case l__law_chart => k_is)
    (case k__law_chart => k_is)
    (case p__law_chart => k_is)
    (case a__law_way => k_is)
    (case l__law_way => k_is)
    (case k__law_way => k_is)
    (case p__law_way => k_is)
    (case a__law_rings => k_is)
    (case l__law_rings => k_is)
    (case k__law_rings => k_is)
    (case p__law_rings => k_is)
    (case a_is_integer => k_is)
    (case l_is_integer => k_is)
    (case k_is_integer => k_is)
    (case p_is_integer => k_is)
    (case a_is_between => k_is)
    (case l_is_between => k_is)
    (case k_is_between => k_is)
    (case p_is_between => k_is)
    (case a_is_chart => k_is)
    (case l_is_chart => k_is)
    (case k_is_chart => k_is)
    (case p_is_chart => k_is)
    (case a_check_chart => k_is)
    (case l_check_chart => k_is)
    (case k_check_chart => k_is)
    (case p_check_chart => k_is)
    (case a_image_of => k_is)
    (case l_image_of => k_is)
    (case k_image_of => k_is)
    (case p_image_of => k_is)
    (case a_behind_of => k_is)
    (case l_behind_of => k_is)
    (case k_behind_of => k_is)
    (case p_behind_of => k_is)
    (case a_step_of => k_is)
    (case l_step_of => k_is)
    (case k_step_of => k_is)
    (case p_step_of => k_is)
    (case a_on_rings_of => k_is)
    (case l_on_rings_of => k_is)
    (case k_on_rings_of => k_is)
    (case p_on_rings_of => k_is)
    (case a_way_of => k_is)
    (case l_way_of => k_is)
    (case k_way_of => k_is)
    (case p_way_of => k_is)
    (case a_depths_of => k_is)
    (case l_depths_of => k_is)
    (case k_depths_of => k_is)
    (case p_depths_of => k_is)
    (case a_depths => k_is)
    (case l_depths => k_is)
    (case k_depths => k_is)
    (case p_depths => k_is)
    (case a__law_least => k_is)
    (case l__law_least => k_is)
    (case k__law_least => k_is)
    (case p__law_least => k_is)
    (case a_height_of => k_is)
    (case l_height_of => k_is)
    (case k_height_of => k_is)
    (case p_height_of => k_is)
    (case a_height => k_is)
    (case l_height => k_is)
    (case k_height => k_is)
    (case p_height => k_is)
    (case a_ring_at => k_is)
    (case l_ring_at => k_is)
    (case k_ring_at => k_is)
    (case p_ring_at => k_is)
    (case a_rings_of => k_is)
    (case l_rings_of => k_is)
    (case k_rings_of => k_is)
    (case p_rings_of => k_is)
    (case a_period_of => k_is)
    (case l_period_of => k_is)
    (case k_period_of => k_is)
    (case p_period_of => k_is)
    (case a_period => k_is)
    (case l_period => k_is)
    (case k_period => k_is)
    (case p_period => k_is)
    (case a_check_place => k_is)
    (case l_check_place => k_is)
    (case k_check_place => k_is)
    (case p_check_place => k_is)
    (case a_depth => k_is)
    (case l_depth => k_is)
    (case k_depth => k_is)
    (case p_depth => k_is)
    (case a_children_of => k_is)
    (case l_children_of => k_is)
    (case k_children_of => k_is)
    (case p_children_of => k_is)
    (case a_children => k_is)
    (case l_children => k_is)
    (case k_children => k_is)
    (case p_children => k_is)
    (case a_tree_of => k_is)
    (case l_tree_of => k_is)
    (case k_tree_of => k_is)
    (case p_tree_of => k_is)
    (case a_tree_over => k_is)
    (case l_tree_over => k_is)
    (case k_tree_over => k_is)
    (case p_tree_over => k_is)
    (case a__law_places_right => k_is)
    (case l__law_places_right => k_is)
    (case k__law_places_right => k_is)
    (case p__law_places_right => k_is)
    (case a__law_number => k_is)
    (case l__law_number => k_is)
    (case k__law_number => k_is)
    (case p__law_number => k_is)
    (case a_is_from => k_is)
    (case l_is_from => k_is)
    (case k_is_from => k_is)
    (case p_is_from => k_is)
    (case a_check_number => k_is)
    (case l_check_number => k_is)
    (case k_check_number => k_is)
    (case p_check_number => k_is)
    (case a_first_repeat => k_is)
    (case l_first_repeat => k_is)
    (case k_first_repeat => k_is)
    (case p_first_repeat => k_is)
    (case a_law => k_is)
    (case l_law => k_is)
    (case k_law => k_is)
    (case p_law => k_is)
    (case z_all => k_is)
    (case z_any => k_is)
    (case z_bool => k_is)
    (case z_enumerate => k_is)
    (case z_int => k_is)
    (case z_isinstance => k_is)
    (case z_len => k_is)
    (case z_list => k_is)
    (case z_max => k_is)
    (case z_min => k_is)
    (case z_range => k_is)
    (case z_repr => k_is)
    (case z_set => k_is)
    (case z_sorted => k_is)
    (case z_tuple => k_is)
    (case g_MOST_PLACES => k_is)
    (case y_gcd => k_is)

