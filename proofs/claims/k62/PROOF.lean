import PyProof.Rows.All
import Wide.All
import OpenK.AllK
import Wide.FinOn
import KE.KSortKey
import HandS.ForMost
import HandS.Sort
import HandS.SortKw
import HandS.Nested
import HandS.Conv
import HandS.Evl
import HandS.IsInst
import HandS.More
import HandS.HeadWalk
import HandS.HeadHook4
import HandS.Rev
import KE.KStateDown
import Lean
import HandS.Defaults
import HandS.Head0
import HandS.Head1
import HandS.Head2
import HandS.HeadEnd
import HandS.HeadHook1
import HandS.HeadHook2
import PySem.Challenge.RW_sumsway_k62_whole_signs_over_a_pair
set_option linter.all false
/-! Plain mathematics: finite sums, orders on 0..n-1, signs, pairs of ways. -/
namespace Sw
/-- the sum of f i over i below n -/
def S : Nat → (Nat → Int) → Int
  | 0, _ => 0
  | n + 1, f => S n f + f n
theorem S_congr {n : Nat} {f g : Nat → Int} (h : ∀ i, i < n → f i = g i) : S n f = S n g := by
  induction n with
  | zero => rfl
  | succ n ih =>
    show S n f + f n = S n g + g n
    rw [ih fun i hi => h i (by omega), h n (by omega)]
theorem S_zero {n : Nat} {f : Nat → Int} (h : ∀ i, i < n → f i = 0) : S n f = 0 := by
  induction n with
  | zero => rfl
  | succ n ih =>
    show S n f + f n = 0
    rw [ih fun i hi => h i (by omega), h n (by omega)]
    rfl
theorem S_add (n : Nat) (f g : Nat → Int) : S n (fun i => f i + g i) = S n f + S n g := by
  induction n with
  | zero => rfl
  | succ n ih =>
    show S n (fun i => f i + g i) + (f n + g n) = (S n f + f n) + (S n g + g n)
    rw [ih]
    omega
theorem S_sub (n : Nat) (f g : Nat → Int) : S n (fun i => f i - g i) = S n f - S n g := by
  induction n with
  | zero => rfl
  | succ n ih =>
    show S n (fun i => f i - g i) + (f n - g n) = (S n f + f n) - (S n g + g n)
    rw [ih]
    omega
theorem S_mul (n : Nat) (c : Int) (f : Nat → Int) : S n (fun i => c * f i) = c * S n f := by
  induction n with
  | zero => exact (Int.mul_zero c).symm
  | succ n ih =>
    show S n (fun i => c * f i) + c * f n = c * (S n f + f n)
    rw [ih, Int.mul_add]
theorem S_swap (n m : Nat) (f : Nat → Nat → Int) : S n (fun i => S m fun j => f i j) = S m fun j => S n fun i => f i j := by
  induction n with
  | zero => exact (S_zero fun i _ => rfl).symm
  | succ n ih =>
    show S n (fun i => S m fun j => f i j) + S m (fun j => f n j) = S m fun j => S n (fun i => f i j) + f n j
    rw [ih, S_add]
/-- all but one place are nothing -/
theorem S_one {n k : Nat} (hk : k < n) {f : Nat → Int} (h : ∀ i, i < n → i ≠ k → f i = 0) : S n f = f k := by
  induction n with
  | zero => omega
  | succ n ih =>
    show S n f + f n = f k
    by_cases e : k = n
    · rw [S_zero fun i hi => h i (by omega) (by omega), e]
      omega
    · rw [ih (by omega) fun i hi ne => h i (by omega) ne, h n (by omega) (by omega)]
      omega
/-- one place changed -/
theorem S_split {n k : Nat} (hk : k < n) (f : Nat → Int) : S n f = f k + S n fun i => if i = k then 0 else f i := by
  have e : S n f = S n fun i => (if i = k then f k else 0) + (if i = k then 0 else f i) := S_congr fun i _ => by
    by_cases q : i = k
    · rw [if_pos q, if_pos q, q]; omega
    · rw [if_neg q, if_neg q]; omega
  rw [e, S_add, S_one (f := fun i => if i = k then f k else 0) hk fun i _ ne => if_neg ne, if_pos rfl]
/-- a test as 1 or 0 -/
def b1 (b : Bool) : Int := if b then 1 else 0
theorem b1_mul (b : Bool) (x : Int) : (if b = true then x else 0) = b1 b * x := by
  cases b
  · show (0 : Int) = 0 * x
    omega
  · show x = 1 * x
    omega
/-! ### orders -/
structure Po (n : Nat) (le : Nat → Nat → Bool) : Prop where
  refl : ∀ a, a < n → le a a = true
  trans : ∀ a b c, a < n → b < n → c < n → le a b = true → le b c = true → le a c = true
  anti : ∀ a b, a < n → b < n → le a b = true → le b a = true → a = b
/-- how many are at or beneath -/
def size (n : Nat) (le : Nat → Nat → Bool) (b : Nat) : Int := S n fun c => b1 (le c b)
theorem S_le {n : Nat} {f g : Nat → Int} (h : ∀ i, i < n → f i ≤ g i) : S n f ≤ S n g := by
  induction n with
  | zero => exact Int.le_refl 0
  | succ n ih =>
    show S n f + f n ≤ S n g + g n
    have := ih fun i hi => h i (by omega)
    have := h n (by omega)
    omega
theorem S_lt {n k : Nat} (hk : k < n) {f g : Nat → Int} (h : ∀ i, i < n → f i ≤ g i) (hl : f k < g k) : S n f < S n g := by
  induction n with
  | zero => omega
  | succ n ih =>
    show S n f + f n < S n g + g n
    by_cases e : k = n
    · have := S_le (n := n) (f := f) (g := g) fun i hi => h i (by omega)
      rw [e] at hl
      omega
    · have := ih (by omega) fun i hi => h i (by omega)
      have := h n (by omega)
      omega
theorem b1_le {a b : Bool} (h : a = true → b = true) : b1 a ≤ b1 b := by
  cases a
  · cases b <;> decide
  · rw [h rfl]; exact Int.le_refl _
theorem size_lt {n : Nat} {le : Nat → Nat → Bool} (P : Po n le) {a b : Nat} (ha : a < n) (hb : b < n) (h : le a b = true) (ne : a ≠ b) : size n le a < size n le b := by
  refine S_lt hb (fun i hi => b1_le fun q => P.trans i a b hi ha hb q h) ?_
  have e : le b a = false := by
    cases q : le b a with
    | false => rfl
    | true => exact absurd (P.anti a b ha hb h q) ne
  show b1 (le b a) < b1 (le b b)
  rw [e, P.refl b hb]
  decide
theorem size_nn (n : Nat) (le : Nat → Nat → Bool) (b : Nat) : 0 ≤ size n le b := by
  have := S_le (n := n) (f := fun _ => 0) (g := fun c => b1 (le c b)) fun i _ => by cases le i b <;> decide
  rw [S_zero (f := fun _ => 0) fun _ _ => rfl] at this
  exact this
theorem size_top (n : Nat) (le : Nat → Nat → Bool) (b : Nat) : size n le b ≤ n := by
  have key : ∀ m : Nat, S m (fun c => b1 (le c b)) ≤ m := fun m => by
    induction m with
    | zero => exact Int.le_refl 0
    | succ m ih =>
      show S m (fun c => b1 (le c b)) + b1 (le m b) ≤ ((m + 1 : Nat) : Int)
      have : b1 (le m b) ≤ 1 := by cases le m b <;> decide
      omega
  exact key n
theorem size_pos {n : Nat} {le : Nat → Nat → Bool} (P : Po n le) {b : Nat} (hb : b < n) : 1 ≤ size n le b := by
  have := S_lt (n := n) (k := b) hb (f := fun _ => 0) (g := fun c => b1 (le c b)) (fun i _ => by cases le i b <;> decide) (by
    show (0 : Int) < b1 (le b b)
    rw [P.refl b hb]
    decide)
  rw [S_zero (f := fun _ => 0) fun _ _ => rfl] at this
  exact this
/-- induction from beneath -/
theorem Po.ind {n : Nat} {le : Nat → Nat → Bool} (P : Po n le) {C : Nat → Prop} (h : ∀ b, b < n → (∀ c, c < n → le c b = true → c ≠ b → C c) → C b) : ∀ b, b < n → C b := by
  have key : ∀ (k : Nat) (b : Nat), b < n → (size n le b).toNat ≤ k → C b := fun k => by
    induction k with
    | zero =>
      intro b hb hk
      have := size_pos P hb
      omega
    | succ k ih =>
      refine fun b hb hk => h b hb fun c hc hl ne => ih c hc ?_
      have := size_lt P hc hb hl ne
      have := size_nn n le c
      omega
  exact fun b hb => key _ b hb (Nat.le_refl _)
/-- the sum of v over what is at or beneath b -/
def dn (n : Nat) (le : Nat → Nat → Bool) (v : Nat → Int) (b : Nat) : Int := S n fun c => if le c b = true then v c else 0
theorem dn_zero {n : Nat} {le : Nat → Nat → Bool} (P : Po n le) {v : Nat → Int} (h : ∀ b, b < n → dn n le v b = 0) : ∀ b, b < n → v b = 0 := by
  refine P.ind fun b hb ih => ?_
  have e := h b hb
  unfold dn at e
  rw [S_one hb fun i hi ne => ?_, if_pos (P.refl b hb)] at e
  · exact e
  · by_cases q : le i b = true
    · rw [if_pos q]
      exact ih i hi q ne
    · exact if_neg q
/-- delta -/
def dl (a b : Nat) : Int := if a = b then 1 else 0
/-- mu a b: the signs: for each a the row whose sums from beneath are 1 at a, else 0 -/
def IsMu (n : Nat) (le : Nat → Nat → Bool) (mu : Nat → Nat → Int) : Prop := ∀ a, a < n → ∀ b, b < n → dn n le (mu a) b = dl a b
theorem mu_one {n : Nat} {le : Nat → Nat → Bool} (P : Po n le) {mu nu : Nat → Nat → Int} (h : IsMu n le mu) (k : IsMu n le nu) {a b : Nat} (ha : a < n) (hb : b < n) : mu a b = nu a b := by
  have z := dn_zero P (v := fun c => mu a c - nu a c) (fun b hb => ?_) b hb
  · have z' : mu a b - nu a b = 0 := z
    omega
  · have e : dn n le (fun c => mu a c - nu a c) b = dn n le (mu a) b - dn n le (nu a) b := by
      unfold dn
      rw [← S_sub]
      refine S_congr fun i _ => ?_
      by_cases q : le i b = true
      · rw [if_pos q, if_pos q, if_pos q]
      · rw [if_neg q, if_neg q, if_neg q]; rfl
    rw [e, h a ha b hb, k a ha b hb]
    omega
/-- the other way round: sums over what is at or above z -/
theorem mu_dual {n : Nat} {le : Nat → Nat → Bool} (P : Po n le) {mu : Nat → Nat → Int} (h : IsMu n le mu) {z y : Nat} (hz : z < n) (hy : y < n) : S n (fun b => if le z b = true then mu b y else 0) = dl z y := by
  have key := dn_zero P (v := fun y => S n (fun b => if le z b = true then mu b y else 0) - dl z y) (fun w hw => ?_) y hy
  · have k' : S n (fun b => if le z b = true then mu b y else 0) - dl z y = 0 := key
    omega
  · have e1 : dn n le (fun y => S n (fun b => if le z b = true then mu b y else 0) - dl z y) w = S n (fun y => b1 (le y w) * S n (fun b => b1 (le z b) * mu b y)) - S n (fun y => b1 (le y w) * dl z y) := by
      unfold dn
      rw [← S_sub]
      refine S_congr fun i _ => ?_
      rw [b1_mul, Int.mul_sub]
      congr 2
      exact S_congr fun j _ => b1_mul _ _
    have e2 : S n (fun y => b1 (le y w) * S n (fun b => b1 (le z b) * mu b y)) = b1 (le z w) := by
      have a1 : S n (fun y => b1 (le y w) * S n (fun b => b1 (le z b) * mu b y)) = S n (fun y => S n fun b => b1 (le z b) * (b1 (le y w) * mu b y)) := S_congr fun i _ => by
        rw [← S_mul]
        refine S_congr fun j _ => ?_
        rw [← Int.mul_assoc, ← Int.mul_assoc, Int.mul_comm (b1 (le i w))]
      rw [a1, S_swap]
      have a2 : S n (fun b => S n fun y => b1 (le z b) * (b1 (le y w) * mu b y)) = S n (fun b => b1 (le z b) * dl b w) := S_congr fun b hb => by
        rw [S_mul]
        have := h b hb w hw
        unfold dn at this
        rw [← this]
        congr 1
        exact S_congr fun i _ => (b1_mul _ _).symm
      rw [a2, S_one hw fun i _ ne => ?_]
      · show b1 (le z w) * dl w w = b1 (le z w)
        unfold dl
        rw [if_pos rfl, Int.mul_one]
      · show b1 (le z i) * dl i w = 0
        unfold dl
        rw [if_neg ne, Int.mul_zero]
    have e3 : S n (fun y => b1 (le y w) * dl z y) = b1 (le z w) := by
      rw [S_one hz fun i _ ne => ?_]
      · unfold dl
        rw [if_pos rfl, Int.mul_one]
      · show b1 (le i w) * dl z i = 0
        unfold dl
        rw [if_neg fun q => ne q.symm, Int.mul_zero]
    rw [e1, e2, e3]
    omega
/-- THE LAW: for a pair of ways both sums are one number -/
theorem galois {n m : Nat} {lp lq : Nat → Nat → Bool} (P : Po n lp) (Q : Po m lq) {mp mq : Nat → Nat → Int} (hp : IsMu n lp mp) (hq : IsMu m lq mq) {f g : Nat → Nat} (hf : ∀ a, a < n → f a < m) (hg : ∀ b, b < m → g b < n)
    (adj : ∀ a b, a < n → b < m → lq (f a) b = lp a (g b)) {x y : Nat} (hx : x < n) (hy : y < m) :
    S n (fun a => if f a = y then mp x a else 0) = S m (fun b => if g b = x then mq b y else 0) := by
  have e1 : S n (fun a => if f a = y then mp x a else 0) = S n (fun a => S m fun b => mq b y * (b1 (lp a (g b)) * mp x a)) := S_congr fun a ha => by
    have d := mu_dual Q hq (hf a ha) hy
    have e : S m (fun b => mq b y * (b1 (lp a (g b)) * mp x a)) = mp x a * S m (fun b => if lq (f a) b = true then mq b y else 0) := by
      rw [← S_mul]
      refine S_congr fun b hb => ?_
      rw [b1_mul, adj a b ha hb, Int.mul_comm (mq b y), Int.mul_assoc, Int.mul_left_comm]
    rw [e, d]
    unfold dl
    by_cases q : f a = y
    · rw [if_pos q, if_pos q, Int.mul_one]
    · rw [if_neg q, if_neg q, Int.mul_zero]
  rw [e1, S_swap]
  refine S_congr fun b hb => ?_
  rw [S_mul]
  have k := hp x hx (g b) (hg b hb)
  unfold dn at k
  have e2 : S n (fun a => b1 (lp a (g b)) * mp x a) = dl x (g b) := by
    rw [← k]
    exact S_congr fun a _ => (b1_mul _ _).symm
  rw [e2]
  unfold dl
  by_cases q : g b = x
  · rw [if_pos q, if_pos q.symm, Int.mul_one]
  · rw [if_neg q, if_neg fun z => q z.symm, Int.mul_zero]
end Sw
set_option Elab.async false
set_option linter.all false
set_option maxRecDepth 100000
set_option maxHeartbeats 2000000
/-! sorted(xs, key=lambda a: ..): the lambda's call, the keys' loop, the sort. -/
namespace SwK
open PySem PySem.Spec PyProof.Rows L2 LamX NdefX
/-! ### one object, word for word, in the abstract heap -/
def PinO (a : Addr) (o : Obj) : HO := .ext fun h => h.get? a = some o
theorem pinO_tbl {a : Addr} {o : Obj} (ps : Array Value) : PinO a o ≠ .tbl ps := fun z => by
  unfold PinO at z
  cases z
theorem pin_get {P : Program} {w : World} {H : Hp} {h : Heap} {a : Addr} {o : Obj} (ok : HOk P w H h) (e : H a = some (PinO a o)) : h.get? a = some o := (ok a _ e).1
theorem pin_ok {P : Program} {w : World} {H : Hp} {h : Heap} {a : Addr} {o : Obj} (e : h.get? a = some o) : ObjOk P w H h a (PinO a o) := ⟨e, ⟨o, e⟩, fun _ _ z st => st _ z⟩
section
variable {X : Cx} {pins : List (Addr × Obj)} {σ : L2.St} {H : Hp} {s : Shared}
theorem pin_new {o : Obj} (I : Inv X pins σ H s) (ho : o.isFreed = false) : Inv X pins σ (upd H s.heap.objs.size (PinO s.heap.objs.size o)) { s with heap := s.heap.push o } :=
  I.laid (t' := s.toks) (fun b u e => Heap.get?_push_of_some _ e) (Nat.le_refl _) (pin_ok (Heap.get?_push_size _ ho))
/-- a pinned list is written -/
theorem pin_seq {a : Addr} {its : Array Value} {n : Nat} (I : Inv X pins σ H s) (e : H a = some (PinO a (seqObj "list" its n))) (g : Array Value → Array Value) :
    ∃ m, Inv X pins σ (upd H a (PinO a (seqObj "list" (g its) m))) { s with heap := s.heap.update a (Obj.mapSeq g) } ∧ (s.heap.update a (Obj.mapSeq g)).get? a = some (seqObj "list" (g its) m) := by
  have ho := pin_get I.hok e
  have hu := get?_update_seq ho g
  refine ⟨_, I.write (e := a) (t' := s.toks) (by rw [e]; exact True.intro) (.inl rfl) (fun b u hb q => (Heap.get?_update_ne _ _ _ _ hb).trans q) ⟨_, hu⟩ (pin_ok hu), hu⟩
/-- .. and told as a list again -/
theorem pin_lst {a : Addr} {its : Array Value} {n : Nat} {xs : List V} (I : Inv X pins σ H s) (e : H a = some (PinO a (seqObj "list" its n))) (r : Vals xs its.toList) (hz : xs.length ≤ sizeLine) : Inv X pins σ (upd H a (.lst xs)) s := by
  have ho := pin_get I.hok e
  exact I.write (e := a) (t' := s.toks) (h' := s.heap) (by rw [e]; exact True.intro) (.inl rfl) (fun b u _ q => q) ⟨_, ho⟩ ⟨hz, its.toList, n, r, by rw [ho, Array.toArray_toList]⟩
/-- the tables do not mind a list at a pinned place -/
theorem tabs_list {T : List (Addr × Str)} {P : Program} {w : World} {h : Heap} {a : Addr} {c : String} {its : Array Value} {n : Nat} {o' : HO} (ok : HOk P w H h) (t : Tabs T H) (e : H a = some (PinO a (seqObj c its n))) : Tabs T (upd H a o') := fun p hp => by
  obtain ⟨ps, h1, h2, h3⟩ := t p hp
  have n1 : p.1 ≠ a := fun z => by
    rw [z, e] at h1
    exact pinO_tbl ps (Option.some.inj h1)
  refine ⟨ps, by rw [upd_ne n1]; exact h1, h2, fun pos cv hc => ?_⟩
  obtain ⟨d, e1, e2⟩ := h3 pos cv hc
  refine ⟨d, e1, ?_⟩
  have n2 : d ≠ a := fun z => by
    obtain ⟨⟨oc, vs, t, k1, k2, _⟩, _, _⟩ := ok d _ e2
    rw [z, pin_get ok e] at k1
    cases k1
    cases k2
  rw [upd_ne n2]
  exact e2
theorem tabs_new {T : List (Addr × Str)} {a : Addr} {o : HO} (t : Tabs T H) (e : H a = none) : Tabs T (upd H a o) := t.ext fun b u q => (upd_ne (ne_of_none q e)).trans q
/-- a tracked list changes: the tables stay -/
theorem tabs_lst {T : List (Addr × Str)} {a : Addr} {xs : List V} {o' : HO} (t : Tabs T H) (e : H a = some (.lst xs)) : Tabs T (upd H a o') := fun p hp => by
  obtain ⟨ps, h1, h2, h3⟩ := t p hp
  have n1 : p.1 ≠ a := ne_of h1 e (fun z => by cases z)
  refine ⟨ps, by rw [upd_ne n1]; exact h1, h2, fun pos cv hc => ?_⟩
  obtain ⟨d, e1, e2⟩ := h3 pos cv hc
  exact ⟨d, e1, by rw [upd_ne (ne_of e2 e (fun z => by unfold CodeO at z; cases z))]; exact e2⟩
theorem extN_new {a : Addr} {o : HO} {H' : Hp} (x : ExtN H H') (e : H a = none) : ExtN H (upd H' a o) := fun b u q n => (upd_ne (ne_of_none q e)).trans (x b u q n)
/-! ### the lambda is called -/
abbrev lamF (qual : Str) (params : Arguments) (scope : Scope) (cl : List (Str × Addr)) (c' : Addr) : NF := ⟨"<lambda>", qual, params, [], scope, cl, c'⟩
theorem lam_call {A : Around} {k : Nat} {qual a : Str} {params : Arguments} {body : Expr} {scope : Scope} {cl : List (Str × Addr)} {pm ctv u : Value} {c' f : Addr} {N fr : List Str} {js : List Nat} {v : V} {Q : VK} {tb : TE} (I : Inv X pins σ H s)
    (hA : A.frames = some X.stack) (hr : Room (k + 1) A) (hf : s.heap.get? f = some (PySem.W.kla_obj "<lambda>" qual params body scope cl pm c' ctv)) (hc : H c' = some (CodeO c' qual)) (S : NScope N [a] fr scope) (C : Caps X cl fr js)
    (hb : ∀ u, bindArgs (PySem.W.kla_fn "<lambda>" qual params body scope cl pm (.ref c') ctv) ⟨[u], []⟩ = pure [(a, u)]) (rv : RelV v u)
    (hbody : ∀ s : Shared, Room k (A.deeper (envF (lamF qual params scope cl c') f s.heap.objs.size)) → ∀ H, PE (ncx CX0 X.prog X.w X.K X.mg X.base N (lamF qual params scope cl c') f A X.stack s H E0) body tb) (h : tb (startF N [v] (js.map (slotAt σ))) H Q) :
    wpAny (model X.prog X.w) A (call (.ref f) [u]) (EP X pins σ Q) (fun _ _ => False) s := by
  have i0 := I.env0
  have e0 : Env0 X.prog X.w X.K X.mg X.base A X.stack s H := ⟨hA, i0.mod, i0.bs, i0.bsz, i0.funs, i0.frf, i0.hok, i0.bare⟩
  have rc : codeAny (model X.prog X.w) A (.call (.ref f) ⟨[u], []⟩) (CR CX0 X.stack X.prog X.w H s Q E0) s := by
    refine PySem.W.kla_callFunE hr.depth hf rfl S.co S.gen rfl (codeO_at I.hok hc) ?_
    rw [hb]
    refine wpAny_pure (wpAny_newFunctionEnv S.nocell (fun y hy => ?_) (fun h1 hns hsb => ⟨I.nolimit.fresh _ hsb, ?_⟩) S.kind)
    · rw [List.mem_singleton.mp hy]
      exact S.par a (List.mem_cons_self ..)
    · have kp : ∀ b o, s.heap.get? b = some o → h1.get? b = some o := fun b o e => hsb.extBut b o (Nat.ne_of_lt (Heap.lt_size e)) (Heap.get?_push_of_some _ e)
      have J : Inv (ncx CX0 X.prog X.w X.K X.mg X.base N (lamF qual params scope cl c') f A X.stack s H E0) [] (startF N [v] (js.map (slotAt σ))) H { s with heap := h1, toks := s.toks + [(a, u)].length } :=
        inv_startN (ps := [a]) (us := [u]) S hr.hd e0 rfl (.cons rv .nil) (cells_of I C) hns kp
      refine PySem.W.kla_codeExpr (wpAny_mono ((hbody s (hr.deeper _) H).run [] _ _ H Q J h) (fun r s' hq => ?_) fun e s' hq => hq)
      obtain ⟨x, H', J', rx, q⟩ := hq
      exact ⟨x, H', J'.os, J'.bare, J'.base, J'.hok, rx, q⟩
  refine wpAny_call (codeAny_mono rc fun r s' hq => ?_)
  cases r with
  | error e => exact hq
  | ok fl =>
    cases fl with
    | ret u => exact I.after hq
    | next => exact hq
    | brk => exact hq
    | cont => exact hq
end
end SwK
set_option Elab.async false
set_option linter.all false
set_option maxRecDepth 100000
set_option maxHeartbeats 2000000
namespace SwK
open PySem PySem.Spec PyProof.Rows L2 LamX NdefX
/-- the tuples stay -/
def TupS (H H' : Hp) : Prop := ∀ t xs, H t = some (.tup xs) → H' t = some (.tup xs)
theorem tupS_ext {H H' : Hp} (x : ExtN H H') : TupS H H' := fun t xs e => x t _ e fun ps z => by cases z
theorem tupS_lst {H : Hp} {a : Addr} {xs : List V} {o : HO} (e : H a = some (.lst xs)) : TupS H (upd H a o) := fun t ys q => (upd_ne (ne_of q e fun z => by cases z)).trans q
theorem TupS.trans {H H1 H2 : Hp} (a : TupS H H1) (b : TupS H1 H2) : TupS H H2 := fun t xs e => b t xs (a t xs e)
/-- how keys lie to the items (ints): what a key is; which of two items is below the other -/
structure KeyOrd (G : Int → V → Hp → Prop) (ltN : Int → Int → Bool) : Prop where
  stay : ∀ n k H H', TupS H H' → G n k H → G n k H'
  sort : ∀ (P : Program) (w : World) (A : Around) (s : Shared) (H : Hp) (kS : Addr) (it : Array Value) (e : Nat) (ns : List Int) (ks : List V) (us : List Value), HOk P w H s.heap → s.heap.get? kS = some (seqObj "list" it e) → Vals ks us → ks.length = ns.length →
    (∀ (j : Nat) (n : Int) (k : V), ns[j]? = some n → ks[j]? = some k → G n k H) → 2 ≤ us.length →
    ∃ ltv : Value → Value → Bool, SrtO.Swo ltv ∧ SrtO.SortableO P w A s kS us ltv ∧ ∀ (i j : Nat) (m n : Int) (u v : Value), ns[i]? = some m → ns[j]? = some n → us[i]? = some u → us[j]? = some v → ltv u v = ltN m n
/-! ### the keys' loop -/
section
variable {X : Cx} {pins : List (Addr × Obj)} {σ : L2.St}
theorem keys_loop {T : List (Addr × Str)} {A : Around} {f : Value} {a kS : Addr} {b : Bool} {us : List Value} {ns : List Int} {e1 : Nat} {G : Int → V → Hp → Prop} {H1 H : Hp} {s : Shared} {R : PySem.Fin → Shared → Prop} {E : Value → Shared → Prop} (hG : ∀ n k H H', TupS H H' → G n k H → G n k H') (I : Inv X pins σ H s) (hT : Tabs T H) (hx : ExtN H1 H) (hn1 : H1 kS = none)
    (hk : H kS = some (.lst [])) (hi : IntsAre us ns) (hz : us.length ≤ 1000)
    (turn : ∀ (n : Int) (t : Tok) (s : Shared) (H : Hp), n ∈ ns → Inv X pins σ H s → ExtN H1 H → Tabs T H → wpAny (model X.prog X.w) A (call f [.int n t]) (EP X pins σ fun k H' => ExtN H H' ∧ Tabs T H' ∧ G n k H') (fun _ _ => False) s)
    (done : ∀ (s : Shared) (H' : Hp) (ks : List V) (its : List Value) (c : Nat), Inv X pins σ H' s → ExtN H1 H' → Tabs T H' → H' kS = some (.lst ks) → ks.length = ns.length → (∀ (j : Nat) (n : Int) (k : V), ns[j]? = some n → ks[j]? = some k → G n k H') →
      Vals ks its → s.heap.get? kS = some (seqObj "list" its.toArray c) → wpAny (model X.prog X.w) A (ksk_end a b us.toArray e1 (.ref kS) its.toArray) R E s) :
    wpAny (model X.prog X.w) A (ksk_rest a f b us.toArray e1 (.ref kS)) R E s := by
  have hlen := hi.length
  unfold ksk_rest
  refine wpAny_bind (wpAny_rule ?_)
  rw [← Array.forIn_toList]
  refine wpAny_bind (ksk_fold (fun i s' => ∃ (H' : Hp) (ks : List V), Inv X pins σ H' s' ∧ ExtN H1 H' ∧ Tabs T H' ∧ H' kS = some (.lst ks) ∧ ks.length = i ∧ ∀ (j : Nat) (n : Int) (k : V), ns[j]? = some n → ks[j]? = some k → G n k H') us 0 s
    ⟨H, [], I, hx, hT, hk, rfl, fun j n k _ q => by simp at q⟩ ?step ?last)
  case step =>
    rintro j u s' hu ⟨H', ks, I', x', T', k', len', g'⟩
    rw [Nat.zero_add] at len'
    have hj : j < us.length := (List.getElem?_eq_some_iff.mp hu).1
    obtain ⟨n, hn⟩ : ∃ n, ns[j]? = some n := ⟨_, List.getElem?_eq_getElem (by omega)⟩
    obtain ⟨t, ht⟩ := hi.get j n hn
    rw [hu] at ht
    cases ht
    refine wpAny_bind (wpAny_attempt (wpAny_mono (turn n t s' H' (List.mem_of_getElem? hn) I' x' T') (fun v s2 hv => ?_) fun _ _ z => z.elim))
    obtain ⟨k, H2, I2, rk, x2, T2, gk⟩ := hv
    have k2 : H2 kS = some (.lst ks) := x2 _ _ k' (fun ps z => by cases z)
    obtain ⟨hz2, its, c, rv, el, ho⟩ := I2.lstM k2
    have sl : sizeLine = 16777216 := sizeLine_eq
    try dsimp only
    refine wpAny_bind (listUpdate_at ho rfl ?_ (by rw [List.size_toArray]; omega) (by rw [Array.size_push, List.size_toArray]; omega))
    have I3 := I2.lset (t' := s2.toks) (its' := its ++ [v]) (f := fun z => z.push v) (ys := ks ++ [k]) k2 ho (by simp) (rv.append (.cons rk .nil)) (by rw [List.length_append, List.length_singleton]; omega)
    refine wpAny_pure ⟨rfl, _, ks ++ [k], I3, extN_new (fun b o q n => x2 b o (x' b o q n) n) hn1, tabs_lst T2 k2, upd_same, by rw [List.length_append, List.length_singleton]; omega, fun i m q hm hq => ?_⟩
    refine hG _ _ _ _ (tupS_lst k2) ?_
    by_cases hi2 : i < ks.length
    · rw [List.getElem?_append_left hi2] at hq
      exact hG _ _ _ _ (tupS_ext x2) (g' i m q hm hq)
    · rw [List.getElem?_append_right (by omega)] at hq
      have e0 : i - ks.length = 0 := by
        have h1 := (List.getElem?_eq_some_iff.mp hq).1
        rw [List.length_singleton] at h1
        omega
      rw [e0] at hq
      have e1 : k = q := Option.some.inj hq
      have e2 : i = j := by omega
      rw [e2, hn] at hm
      rw [← e1, ← Option.some.inj hm]
      exact gk
  case last =>
    rintro s' ⟨H', ks, I', x', T', k', len', g'⟩
    rw [Nat.zero_add] at len'
    obtain ⟨hz2, its, c, rv, el, ho⟩ := I'.lstM k'
    try dsimp only
    refine wpAny_bind (listItems_at ho rfl ?_)
    exact done s' H' ks its c I' x' T' k' (by omega) g' rv ho
end
/-! ### the sort by keys -/
theorem zip_at {α β : Type} : ∀ {xs : List α} {ys : List β} {p : α × β}, p ∈ xs.zip ys → ∃ i : Nat, xs[i]? = some p.1 ∧ ys[i]? = some p.2
  | [], _, _, h => by simp at h
  | _ :: _, [], _, h => by simp at h
  | x :: xs, y :: ys, p, h => by
    rw [List.zip_cons_cons] at h
    rcases List.mem_cons.mp h with e | h
    · subst e
      exact ⟨0, rfl, rfl⟩
    · obtain ⟨i, h1, h2⟩ := zip_at h
      exact ⟨i + 1, h1, h2⟩
theorem zip_snd {α β : Type} : ∀ {xs : List α} {ys : List β}, xs.length = ys.length → (xs.zip ys).map Prod.snd = ys
  | [], [], _ => rfl
  | [], _ :: _, h => by simp at h
  | _ :: _, [], h => by simp at h
  | x :: xs, y :: ys, h => by
    rw [List.zip_cons_cons, List.map_cons, zip_snd (by simpa using h)]
/-- what comes out: the items, rearranged, none behind one that it is below -/
theorem keys_out {ltN : Int → Int → Bool} {ltv : Value → Value → Bool} {ku us : List Value} {ns : List Int} {ps : List Keyed} (hi : IntsAre us ns) (hl : ku.length = us.length)
    (hk : ∀ (i j : Nat) (m n : Int) (u v : Value), ns[i]? = some m → ns[j]? = some n → ku[i]? = some u → ku[j]? = some v → ltv u v = ltN m n) (hs : SrtO.Srtd (SrtO.lt2 ltv) ps) (hp : ps.Perm (ku.zip us)) :
    ∃ ns', IntsAre (ps.map Prod.snd) ns' ∧ ns'.Perm ns ∧ ns'.Pairwise fun x y => ltN y x = false := by
  have hpm : (ps.map Prod.snd).Perm us := by
    have q := hp.map Prod.snd
    rw [zip_snd hl] at q
    exact q
  have hI : IntsAre (ps.map Prod.snd) ((ps.map Prod.snd).map SrtO.iv) := SrtO.ints_iv fun v hv => SrtO.ints_mem hi v (hpm.mem_iff.mp hv)
  refine ⟨_, hI, ?_, ?_⟩
  · rw [← SrtO.iv_ints hi]
    exact hpm.map _
  · rw [List.map_map, List.pairwise_map]
    have hlen := hi.length
    have key : ∀ p ∈ ps, ∃ (i : Nat) (m : Int), ns[i]? = some m ∧ ku[i]? = some p.1 ∧ SrtO.iv p.2 = m := fun p hm => by
      obtain ⟨i, h1, h2⟩ := zip_at (hp.mem_iff.mp hm)
      have hi2 : i < ns.length := by
        have := (List.getElem?_eq_some_iff.mp h2).1
        omega
      obtain ⟨t, ht⟩ := hi.get i _ (List.getElem?_eq_getElem hi2)
      rw [h2] at ht
      refine ⟨i, _, List.getElem?_eq_getElem hi2, h1, ?_⟩
      rw [Option.some.inj ht]
      rfl
    refine List.Pairwise.imp_of_mem (fun {p q} hp' hq' h => ?_) hs
    obtain ⟨i, m, i1, i2, i3⟩ := key p hp'
    obtain ⟨j, n, j1, j2, j3⟩ := key q hq'
    show ltN (SrtO.iv q.2) (SrtO.iv p.2) = false
    rw [i3, j3, ← hk j i n m q.1 p.1 j1 i1 j2 i2]
    exact h
end SwK
set_option Elab.async false
set_option linter.all false
set_option maxRecDepth 100000
set_option maxHeartbeats 2000000
namespace SwK
open PySem PySem.Spec PyProof.Rows L2 LamX NdefX
section
variable {X : Cx} {pins : List (Addr × Obj)} {σ : L2.St}
/-- the pairs sorted, the list written -/
theorem keys_end {T : List (Addr × Str)} {A : Around} {a kS : Addr} {us ku : List Value} {ns : List Int} {ks : List V} {e1 c : Nat} {G : Int → V → Hp → Prop} {ltN : Int → Int → Bool} {H : Hp} {s : Shared} {R : PySem.Fin → Shared → Prop} {E : Value → Shared → Prop} (KO : KeyOrd G ltN)
    (I : Inv X pins σ H s) (hT : Tabs T H) (hi : IntsAre us ns) (hz : us.length ≤ 1000) (hk : H kS = some (.lst ks)) (hl : ks.length = ns.length) (hg : ∀ (j : Nat) (n : Int) (k : V), ns[j]? = some n → ks[j]? = some k → G n k H) (hv : Vals ks ku)
    (hko : s.heap.get? kS = some (seqObj "list" ku.toArray c)) (ha : H a = some (PinO a (seqObj "list" #[] e1)))
    (done : ∀ (s : Shared) (ns' : List Int), Inv X pins σ (upd (upd H kS (.lst [])) a (.lst (ns'.map V.int))) s → Tabs T (upd (upd H kS (.lst [])) a (.lst (ns'.map V.int))) → ns'.Perm ns → (ns'.Pairwise fun x y => ltN y x = false) → R (.done (.ret .none)) s) :
    wpAny (model X.prog X.w) A (ksk_end a false us.toArray e1 (.ref kS) ku.toArray) R E s := by
  have hlen := hi.length
  have hvl := hv.length
  have sl : sizeLine = 16777216 := sizeLine_eq
  have hkl : ku.length = us.length := by omega
  have nak : a ≠ kS := fun z => by
    rw [z, hk] at ha
    unfold PinO at ha
    cases ha
  have hzl : (ku.toArray.zip us.toArray).toList = ku.zip us := by simp
  have tail : ∀ st : SortSt, (arrOf st).toList.Perm (ku.zip us) → (∃ ns', IntsAre ((arrOf st).toList.map Prod.snd) ns' ∧ ns'.Perm ns ∧ ns'.Pairwise fun x y => ltN y x = false) → failedOf st = none →
      wpAny (model X.prog X.w) A (ksk_tail a false e1 (.ref kS) st) R E s := by
    intro st hp hn hf
    obtain ⟨ns', hI, hP, hW⟩ := hn
    unfold ksk_tail
    try dsimp only
    have hsz : (arrOf st).size = us.length := by
      have q := hp.length_eq
      rw [Array.length_toList, List.length_zip, hkl, Nat.min_self] at q
      exact q
    refine wpAny_bind (listUpdate_at hko rfl ?_ (by rw [List.size_toArray]; omega) (Nat.zero_le _))
    have I1 := I.lset (t' := s.toks) (its' := []) (f := fun _ => #[]) (ys := []) hk hko rfl .nil (Nat.zero_le _)
    have ha1 : (upd H kS (.lst [])) a = some (PinO a (seqObj "list" #[] e1)) := (upd_ne nak).trans ha
    refine wpAny_bind (wpAny_letGo ?_)
    refine wpAny_bind (seqEpoch_at (pin_get I1.hok ha1) rfl ?_)
    refine wpAny_bind (listUpdate_at (pin_get I1.hok ha1) rfl ?_ (Nat.zero_le _) (by
      show ((arrOf st).map (·.2)).size ≤ _
      rw [Array.size_map, hsz]
      omega))
    obtain ⟨m, I2, _⟩ := pin_seq I1 ha1 fun _ => (arrOf st).map (·.2)
    have ha2 : upd (upd H kS (.lst [])) a (PinO a (seqObj "list" ((arrOf st).map (·.2)) m)) a = some (PinO a (seqObj "list" ((arrOf st).map (·.2)) m)) := upd_same
    have I3 := pin_lst (xs := ns'.map V.int) I2 ha2 (by rw [Array.toList_map]; exact vals_of_ints hI) (by
      have := hP.length_eq
      rw [List.length_map]
      omega)
    rw [upd_upd] at I3
    rw [hf]
    simp only [bne_self_eq_false, Bool.false_eq_true, if_false]
    refine wpAny_pure (done _ ns' I3 (tabs_list I1.hok (tabs_lst hT hk) ha1) hP hW)
  unfold ksk_end
  simp only [Bool.false_eq_true, if_false]
  by_cases h2 : us.toArray.size < 2
  · rw [if_pos h2, if_pos h2]
    refine wpAny_bind (wpAny_pure ?_)
    rw [StateT.run_pure]
    refine wpAny_bind (wpAny_pure ?_)
    try dsimp only
    rw [List.size_toArray] at h2
    refine tail (SortSt.mk' general' (ku.toArray.zip us.toArray) #[] 7 none) (by
      show (ku.toArray.zip us.toArray).toList.Perm (ku.zip us)
      rw [hzl]) ⟨ns, ?_, List.Perm.refl _, ?_⟩ rfl
    · show IntsAre ((ku.toArray.zip us.toArray).toList.map Prod.snd) ns
      rw [hzl, zip_snd hkl]
      exact hi
    · match ns, hlen with
      | [], _ => exact .nil
      | [x], _ => exact .cons (fun y q => by simp at q) .nil
      | _ :: _ :: _, q => simp at q; omega
  · rw [if_neg h2, if_neg h2]
    rw [List.size_toArray] at h2
    obtain ⟨ltv, hO, hS, hkk⟩ := KO.sort X.prog X.w A s H kS ku.toArray c ns ks ku I.hok hko hv hl hg (by omega)
    obtain ⟨kd, hkind, hC⟩ := hS s.heap fun b o _ q => q
    refine wpAny_bind (hkind _ _ ?_)
    refine wpAny_bind (wpAny_mono (SrtO.wpS_sortO (st0 := SortSt.mk' kd (ku.toArray.zip us.toArray) #[] 7 none)
      (Q := fun _ st' => SrtO.Srtd (SrtO.lt2 ltv) (arrOf st').toList ∧ (arrOf st').toList.Perm (ku.zip us) ∧ failedOf st' = none) (SrtO.swo2 hO) hC rfl (fun p hm => ?_) rfl rfl fun st' a1 a2 a3 => ⟨a1, ?_, a3⟩) ?_ fun _ _ z => z)
    · have hm' : p ∈ (ku.toArray.zip us.toArray).toList := hm
      rw [hzl] at hm'
      obtain ⟨i, q1, _⟩ := zip_at hm'
      exact List.mem_of_getElem? q1
    · have q := a2.perm
      have q' : (arrOf st').toList.Perm (ku.toArray.zip us.toArray).toList := q
      rw [hzl] at q'
      exact q'
    · rintro ⟨⟨⟩, st'⟩ s' ⟨rfl, h1, h3, h4⟩
      try dsimp only
      exact tail st' h3 (keys_out hi hkl hkk h1 h3) h4
/-- sorted(x, key=f), x's items collected -/
theorem sorted_run {T : List (Addr × Str)} {arg f : Value} {ns : List Int} {G : Int → V → Hp → Prop} {ltN : Int → Int → Bool} {H : Hp} {s : Shared} {Q : Value → Shared → Prop} {E : Value → Shared → Prop} (KO : KeyOrd G ltN) (I : Inv X pins σ H s) (hT : Tabs T H) (hz : ns.length ≤ 1000)
    (hkw : ∀ a, Builtin.«list.sort» ⟨[.ref a], [(Str.ofString "key", f)]⟩ = ksk_tree a f false)
    (hcol : ∀ Q' : List Value → Shared → Prop, (∀ us s', IntsAre us ns → Inv X pins σ H s' → Q' us s') → wpAny (model X.prog X.w) X.A.in1 (collect arg) Q' E s)
    (turn : ∀ (n : Int) (t : Tok) (s : Shared) (H' : Hp), n ∈ ns → Inv X pins σ H' s → ExtN H H' → Tabs T H' → wpAny (model X.prog X.w) X.A.in1.in1 (call f [.int n t]) (EP X pins σ fun k H2 => ExtN H' H2 ∧ Tabs T H2 ∧ G n k H2) (fun _ _ => False) s)
    (done : ∀ (s : Shared) (a : Addr) (H' : Hp) (ns' : List Int), Inv X pins σ H' s → ExtN H H' → Tabs T H' → H a = none → H' a = some (.lst (ns'.map V.int)) → ns'.Perm ns → (ns'.Pairwise fun x y => ltN y x = false) → Q (.ref a) s) :
    wpAny (model X.prog X.w) X.A (call (.builtin "sorted") [arg] [(Str.ofString "key", f)]) Q E s := by
  have sl : sizeLine = 16777216 := sizeLine_eq
  refine call_function_entry_kw kind_sorted plain_sorted entry_sorted (ksk_s1 _ _) ?_
  unfold Builtin.«sorted»
  refine wpAny_bind (m := checkCount "sorted" 1 1 _) (wpAny_pure ?_)
  refine wpAny_bind (hcol _ fun us s1 hi I1 => ?_)
  have hlen := hi.length
  refine wpAny_bind (wpAny_newList ?_ (by omega))
  have nA : H s1.heap.objs.size = none := I1.hok.fresh (Nat.le_refl _)
  have I2 := pin_new (o := seqObj "list" us.toArray 0) I1 rfl
  have T2 : Tabs T (upd H s1.heap.objs.size (PinO s1.heap.objs.size (seqObj "list" us.toArray 0))) := tabs_new hT nA
  have X2 : ExtN H (upd H s1.heap.objs.size (PinO s1.heap.objs.size (seqObj "list" us.toArray 0))) := extN_new (ExtN.refl H) nA
  have hoL := pin_get I2.hok upd_same
  refine wpAny_bind (wpAny_holding (wpAny_call_entry_kw slot_list_sort ⟨_, hoL, rfl⟩ entry_list_sort ?_ (ksk_l1 _ _)))
  rw [hkw]
  generalize s1.heap.objs.size = a at *
  unfold ksk_tree
  refine wpAny_bind (listItems_at hoL rfl ?_)
  refine wpAny_bind (listUpdate_at hoL rfl ?_ (by rw [List.size_toArray]; omega) (Nat.zero_le _))
  obtain ⟨e1, I3, ho3⟩ := pin_seq I2 upd_same fun _ => (#[] : Array Value)
  rw [upd_upd] at I3
  have T3 : Tabs T (upd H a (PinO a (seqObj "list" #[] e1))) := tabs_new hT nA
  have X3 : ExtN H (upd H a (PinO a (seqObj "list" #[] e1))) := extN_new (ExtN.refl H) nA
  refine wpAny_bind (seqEpoch_at ho3 rfl ?_)
  refine wpAny_bind (wpAny_newTuple ?_ (by show us.length ≤ _; omega))
  refine wpAny_bind (wpAny_newList ?_ (Nat.zero_le _))
  refine wpAny_holding ?_
  have I4 := I3.kept (t' := s1.toks) (h' := (_ : Heap).push (seqObj "tuple" us.toArray 0)) fun b o q => Heap.get?_push_of_some _ q
  have I5 := I4.lnew (its := []) (ys := []) (t' := s1.toks) .nil (Nat.zero_le _)
  have nK := I4.hok.fresh (Nat.le_refl _)
  generalize Heap.push _ (seqObj "tuple" us.toArray 0) = hh at *
  have nK : upd H a (PinO a (seqObj "list" #[] e1)) hh.objs.size = none := nK
  have nAK : a ≠ hh.objs.size := fun z => by
    rw [← z, upd_same] at nK
    cases nK
  refine keys_loop (T := T) (G := G) (ns := ns) (H1 := upd H a (PinO a (seqObj "list" #[] e1))) (kS := hh.objs.size) KO.stay I5 (tabs_new T3 nK) (extN_new (ExtN.refl _) nK) nK upd_same hi (by omega) (fun n t s' H' hn I' x' t' => turn n t s' H' hn I' (X3.trans x') t') ?_
  intro s6 H6 ks ku c I6 x6 T6 k6 l6 g6 r6 o6
  have a6 : H6 a = some (PinO a (seqObj "list" #[] e1)) := x6 _ _ upd_same (fun ps => pinO_tbl ps)
  refine keys_end KO I6 T6 hi (by omega) k6 l6 g6 r6 o6 a6 fun s7 ns' I7 T7 hp hw => ⟨_, rfl, ?_⟩
  refine wpAny_pure ⟨_, rfl, done s7 a _ ns' I7 ?_ T7 nA upd_same hp hw⟩
  intro b o q n
  have nb : b ≠ a := ne_of_none q nA
  rw [upd_ne nb]
  have q1 := x6 b o ((upd_ne nb).trans q) n
  rw [upd_ne (ne_of_none ((upd_ne nb).trans q) nK)]
  exact q1
end
end SwK
set_option Elab.async false
set_option linter.all false
set_option maxRecDepth 100000
set_option maxHeartbeats 2000000
namespace SwK
open PySem PySem.Spec PyProof.Rows L2 LamX NdefX
/-! ### keys that are ints; keys that are pairs of ints -/
def KInt (K : Int → Int) (n : Int) (k : V) (_ : Hp) : Prop := k = .int (K n)
theorem keyInt (K : Int → Int) : KeyOrd (KInt K) fun m n => decide (K m < K n) where
  stay := fun _ _ _ _ _ h => h
  sort := fun P w A s H kS it e ns ks us ok ho hv hl hg h2 => by
    have hi : IntsAre us (ns.map K) := by
      refine Vals.ints ?_
      have ek : ks = (ns.map K).map V.int := by
        apply List.ext_getElem?
        intro j
        rw [List.getElem?_map, List.getElem?_map]
        cases q : ns[j]? with
        | none =>
          rw [List.getElem?_eq_none_iff.mpr (by rw [hl]; exact List.getElem?_eq_none_iff.mp q)]
          rfl
        | some n =>
          have hj : j < ks.length := by
            rw [hl]
            exact (List.getElem?_eq_some_iff.mp q).1
          rw [List.getElem?_eq_getElem hj]
          exact congrArg some (hg j n _ q (List.getElem?_eq_getElem hj))
      rw [← ek]
      exact hv
    refine ⟨SrtO.ltIv, SrtO.swo_int, SrtO.ints_sortable hi h2, fun i j m n u v hm hn hu hv' => ?_⟩
    obtain ⟨t, ht⟩ := hi.get i (K m) (by rw [List.getElem?_map, hm]; rfl)
    obtain ⟨t', ht'⟩ := hi.get j (K n) (by rw [List.getElem?_map, hn]; rfl)
    rw [hu] at ht
    rw [hv'] at ht'
    rw [Option.some.inj ht, Option.some.inj ht']
    rfl
def KPair (K L : Int → Int) (n : Int) (k : V) (H : Hp) : Prop := ∃ t, k = .ref t ∧ H t = some (.tup [.int (K n), .int (L n)])
/-- the pair that a value stands for -/
def pairOf (H : Hp) : Value → Int × Int
  | .ref t => match H t with
    | some (.tup [.int x, .int y]) => (x, y)
    | _ => (0, 0)
  | _ => (0, 0)
theorem keyPair (K L : Int → Int) : KeyOrd (KPair K L) fun m n => SrtO.lexB (K m, L m) (K n, L n) where
  stay := fun n k H H' ts ⟨t, e, h⟩ => ⟨t, e, ts t _ h⟩
  sort := fun P w A s H kS it e ns ks us ok ho hv hl hg h2 => by
    have at_ : ∀ (i : Nat) (n : Int) (u : Value), ns[i]? = some n → us[i]? = some u → pairOf H u = (K n, L n) ∧ Srt.IsPair s.heap u (K n) (L n) := by
      intro i n u hn hu
      have hj : i < ks.length := by
        rw [hl]
        exact (List.getElem?_eq_some_iff.mp hn).1
      obtain ⟨t, et, ht⟩ := hg i n _ hn (List.getElem?_eq_getElem hj)
      obtain ⟨u', hu', ru⟩ := hv.get (List.getElem?_eq_getElem hj)
      rw [hu] at hu'
      have eu := Option.some.inj hu'
      rw [et] at ru
      have ru' : u' = Value.ref t := ru
      rw [eu, ru']
      refine ⟨?_, ?_⟩
      · show (match H t with
          | some (.tup [.int x, .int y]) => (x, y)
          | _ => (0, 0)) = (K n, L n)
        rw [ht]
      · obtain ⟨_, its, r, ob, h1, hc, m, hd⟩ := ok t _ ht
        obtain ⟨a1, a2, ea, r1, r2⟩ := vals2 r
        obtain ⟨t1, e1⟩ := r1
        obtain ⟨t2, e2⟩ := r2
        subst ea
        subst e1
        subst e2
        exact ⟨t, ob, t1, t2, m, rfl, h1, hc, hd⟩
    refine ⟨fun v u => SrtO.lexB (pairOf H v) (pairOf H u), SrtO.swo_lex (pairOf H), SrtO.pairs_sortableO (by omega) (fun v hv' => ?_) fun o q z => ?_, fun i j m n u v hm hn hu hv' => ?_⟩
    · obtain ⟨i, hi⟩ := List.mem_iff_getElem?.mp hv'
      have hj : i < ns.length := by
        have h3 := (List.getElem?_eq_some_iff.mp hi).1
        have h4 := hv.length
        omega
      obtain ⟨e1, e2⟩ := at_ i _ v (List.getElem?_eq_getElem hj) hi
      rw [e1]
      exact e2
    · rw [ho] at q
      rw [← Option.some.inj q] at z
      exact absurd (show Value.type "list" = Value.type "tuple" from z) (by simp)
    · have e1 := (at_ i m u hm hu).1
      have e2 := (at_ j n v hn hv').1
      show SrtO.lexB (pairOf H u) (pairOf H v) = SrtO.lexB (K m, L m) (K n, L n)
      rw [e1, e2]
/-! ### the rule -/
/-- range(n) as a value -/
theorem cr_rng {X : Cx} : CallR X (.type "range") (fun vs H Q => ∃ n, vs = [V.int n] ∧ ∀ p, H p = none → Q (.ref p) (upd H p (.rng 0 n))) := by
  intro pins s σ H vs us Q I r h
  obtain ⟨n, rfl, q⟩ := h
  obtain ⟨u, rfl, t, rfl⟩ := vals1 r
  refine call_range_1 ⟨.ref s.heap.objs.size, upd H s.heap.objs.size (.rng 0 n), I.laid (t' := s.toks + 1 + 1) (fun b o e => Heap.get?_push_of_some _ e) (Nat.le_refl _) ⟨_, _, _, Heap.get?_push_size _ rfl⟩, rfl, q _ (I.hok.fresh (Nat.le_refl _))⟩
/-- what sorted takes here: a list of ints; a range -/
def Items (K : PySem.W.Frag) (H : Hp) (x : V) (ns : List Int) : Prop := (∃ p, x = .ref p ∧ SqL K H p (ns.map V.int)) ∨ ∃ p n, x = .ref p ∧ H p = some (.rng 0 n) ∧ 0 ≤ n ∧ n ≤ 1000 ∧ ns.map V.int = rgV 0 n
theorem items_ext {K : PySem.W.Frag} {H H' : Hp} {x : V} {ns : List Int} (h : Items K H x ns) (e : ExtN H H') : Items K H' x ns := by
  rcases h with ⟨p, ex, h⟩ | ⟨p, n, ex, h, r⟩
  · refine .inl ⟨p, ex, ?_⟩
    rcases h with (h | ⟨o, h⟩) | h
    · exact .inl (.inl (e p _ h fun ps z => by cases z))
    · exact .inl (.inr ⟨o, e p _ h fun ps z => by cases z⟩)
    · exact .inr h
  · exact .inr ⟨p, n, ex, e p _ h (fun ps z => by cases z), r⟩
section
variable {X : Cx} {pins : List (Addr × Obj)} {σ : L2.St} {H : Hp} {s : Shared}
theorem items_collect {A : Around} {x : V} {u : Value} {ns : List Int} {Q : List Value → Shared → Prop} {E : Value → Shared → Prop} (hA : A.handled = none) (I : Inv X pins σ H s) (r : RelV x u) (h : Items X.K H x ns) (hz : ns.length ≤ 1000) (q : ∀ us s', IntsAre us ns → Inv X pins σ H s' → Q us s') :
    wpAny (model X.prog X.w) A (collect u) Q E s := by
  have sl : sizeLine = 16777216 := sizeLine_eq
  rcases h with ⟨p, rfl, h⟩ | ⟨p, n, rfl, h, h0, h1, e⟩
  · obtain rfl : u = Value.ref p := r
    obtain ⟨its, rv, hl, hz2⟩ := I.list h
    refine collect_list hl.isList (q its _ rv.ints (I.kept (t' := s.toks) fun b o z => ?_)) (by rw [← rv.length, List.length_map]; omega)
    exact (Heap.get?_update_ne _ _ _ _ (Nat.ne_of_lt (Heap.lt_size z))).trans (Heap.get?_push_of_some _ z)
  · obtain rfl : u = Value.ref p := r
    obtain ⟨t, a, b, ho⟩ := I.hok p _ h
    refine collect_range (n := (n - 0).toNat) hA ho (small_one (by omega) (by omega) (by omega) (by omega)) (rangeSize_nat 0 n) (by omega) fun h' tk acc hk hi => q _ _ ?_ (I.kept hk)
    have v := vals_rg hi
    rw [← e] at v
    exact v.ints
end
def tSortLam (K : PySem.W.Frag) (T : List (Addr × Str)) (js : List Nat) (N : List Str) (te tb : TE) : TE := fun σ H Q => te σ H fun x H1 => ∃ (ns : List Int) (G : Int → V → Hp → Prop) (ltN : Int → Int → Bool), Items K H1 x ns ∧ ns.length ≤ 1000 ∧ KeyOrd G ltN ∧ Tabs T H1 ∧
  (∀ n ∈ ns, ∀ H2, ExtN H1 H2 → Tabs T H2 → tb (startF N [.int n] (js.map (slotAt σ))) H2 fun k H3 => ExtN H2 H3 ∧ Tabs T H3 ∧ G n k H3) ∧
  ∀ (ns' : List Int) (p : Addr) (H2 : Hp), ExtN H1 H2 → Tabs T H2 → (∀ b o, H1 b = some o → (∀ ps, o ≠ .tbl ps) → b ≠ p) → H2 p = some (.lst (ns'.map V.int)) → ns'.Perm ns → (ns'.Pairwise fun x y => ltN y x = false) → Q (.ref p) H2
/-- the lambda's captured names are the maker's -/
def capB (sc scope : Scope) (fr : List Str) : Bool := (scope.names.all fun y => !decide (y.2 = .free) || (decide (sc.names.lookup y.1 = some .cell) || decide (sc.names.lookup y.1 = some .free))) && fr.all fun x => decide ((x, NameKind.free) ∈ scope.names)
theorem capB_ok {sc scope : Scope} {fr : List Str} (h : capB sc scope fr = true) : (∀ y ∈ scope.names, y.2 = .free → sc.names.lookup y.1 = some .cell ∨ sc.names.lookup y.1 = some .free) ∧ ∀ y ∈ fr, (y, NameKind.free) ∈ scope.names := by
  unfold capB at h
  simp only [Bool.and_eq_true, List.all_eq_true, Bool.or_eq_true, Bool.not_eq_true', decide_eq_true_eq, decide_eq_false_iff_not] at h
  exact ⟨fun y hy e => (h.1 y hy).resolve_left fun z => z e, h.2⟩
theorem pe_sortLam {X : Cx} {T : List (Addr × Str)} {c P : Addr} {k : Nat} {a : Str} {e : Expr} {params : Arguments} {body : Expr} {scope : Scope} {N fr : List Str} {js : List Nat} {te tb : TE} {p pos lpos kpos : Pos} (hg : Gl X "sorted") (hm : X.mg "sorted" = none) (he : PE X e te)
    (TB : TabB X.base X.mg c P) (hcode : X.env.code = .ref c) (hmT : (P, X.env.qual ++ "<lambda>") ∈ T) (hu : ∀ p ∈ T, p.1 = P → p.2 = X.env.qual ++ "<lambda>") (hdef : defaultsOf params X.env = ([], []))
    (S : NScope N [a] fr scope) (hcap : capB X.env.scope scope fr = true) (hjs : js.map (fun j => X.N[j]?) = fr.map some)
    (hb : ∀ (q : Str) (cl : List (Str × Addr)) (pm cv ctv u : Value), bindArgs (PySem.W.kla_fn "<lambda>" q params body scope cl pm cv ctv) ⟨[u], []⟩ = pure [(a, u)]) (hr : Room (k + 3) X.A)
    (hbody : ∀ (A : Around) (q : Str) (cl : List (Str × Addr)) (c' f : Addr) (s : Shared) (H : Hp), Room k (A.deeper (envF (lamF q params scope cl c') f s.heap.objs.size)) → PE (ncx CX0 X.prog X.w X.K X.mg X.base N (lamF q params scope cl c') f A X.stack s H E0) body tb)
    (na : starEach [e] X.env = (false, eval e X.env) :: starEach [] X.env := by rfl) (nb : backTo pos (starEach [e] X.env) = (false, eval e X.env) :: backTo pos (starEach [] X.env) := by rfl) (nc : (backTo pos (starEach [e] X.env)).any (·.1) = false := by rfl) :
    PE X (.Call (.Name "sorted" p) [e] [⟨some "key", .Lambda params body scope lpos, kpos⟩] pos) (tSortLam X.K T js N te tb) := by
  obtain ⟨hfree, hfr⟩ := capB_ok hcap
  refine ⟨fun pins s σ H Q I h => ?_⟩
  refine wpAny_Call_Name_kw (ld_blt I hg hm (by first | rfl | decide +kernel) ?_)
  refine PyProof.Rows.callWith_kw (M := model X.prog X.w) (thn ((pa_cons he pa_nil na).run pos pins s σ H (fun vs H1 => match vs with
    | [x] => ∃ (ns : List Int) (G : Int → V → Hp → Prop) (ltN : Int → Int → Bool), Items X.K H1 x ns ∧ ns.length ≤ 1000 ∧ KeyOrd G ltN ∧ Tabs T H1 ∧
      (∀ n ∈ ns, ∀ H2, ExtN H1 H2 → Tabs T H2 → tb (startF N [.int n] (js.map (slotAt σ))) H2 fun k H3 => ExtN H2 H3 ∧ Tabs T H3 ∧ G n k H3) ∧
      ∀ (ns' : List Int) (p : Addr) (H2 : Hp), ExtN H1 H2 → Tabs T H2 → (∀ b o, H1 b = some o → (∀ ps, o ≠ .tbl ps) → b ≠ p) → H2 p = some (.lst (ns'.map V.int)) → ns'.Perm ns → (ns'.Pairwise fun x y => ltN y x = false) → Q (.ref p) H2
    | _ => False) I h) fun us s1 ⟨vs, H1, I1, r1, hq⟩ => ?_) nb nc
  match vs, r1, hq with
  | [x], r1, hq =>
    obtain ⟨u, rfl, rx⟩ := vals1 r1
    obtain ⟨ns, G, ltN, hit, hz, KO, hT, hturn, hend⟩ := hq
    show wpAny (model X.prog X.w) X.A (evalAll [do let v ← eval (.Lambda params body scope lpos) X.env; standAt pos; pure v]) _ _ _
    have hhas : ∀ y ∈ scope.names, y.2 = .free → ∃ c, X.env.cells.lookup y.1 = some c := fun y hy z => (hfree y hy z).elim (fun z => I.ok.has _ (.inl z)) fun z => I.ok.has _ (.inr z)
    refine wpAny_evalAll_cons (wpAny_bind (lam_make2 I1 TB hcode hmT hu hT hdef hhas fun f c' pm ctv H2 s2 I2 x2 T2 hf hfn hfk hco => wpAny_bind (wpAny_standAt (wpAny_pure (wpAny_evalAll_nil ?_)))))
    have hA : X.A.frames = some X.stack := I2.ok.frames
    -- the function's object is pinned
    have hfs : f ∉ X.fs := fun z => by
      rcases I2.ok.stk with q | ⟨q, _⟩
      · rw [q] at hfk
        exact hfk z
      · rw [q] at hfk
        refine hfk ?_
        show f ∈ frs (X.env :: X.outer)
        unfold frs
        rw [List.filterMap_cons]
        split
        · exact z
        · exact List.mem_cons_of_mem _ z
    have hfl : f ≠ X.env.locals := fun z => by
      obtain ⟨m, ⟨o, es, ep, q1, q2, _⟩, _⟩ := I2.loc
      rw [← z, hf] at q1
      rw [← Option.some.inj q1] at q2
      cases q2
    have IP : Inv X ((f, PySem.W.kla_obj "<lambda>" (X.env.qual ++ "<lambda>") params body scope (cloFrom X.env.cells scope.names []) pm c' ctv) :: pins) σ H2 s2 := I2.pins_of fun p hp => by
      rcases List.mem_cons.mp hp with z | z
      · rw [z]
        exact ⟨hf, hfn, hfl, hfs, fun v q => by cases q⟩
      · exact I2.pin p (List.mem_append_right _ z)
    have C : Caps X (cloFrom X.env.cells scope.names []) fr js := Caps.made I2.ok hfree hfr hjs
    have hr3 : Room (k + 1) X.A.in1.in1 := (show Room (k + 2) X.A.in1 from Room.in1 hr).in1
    refine sorted_run (pins := (f, PySem.W.kla_obj "<lambda>" (X.env.qual ++ "<lambda>") params body scope (cloFrom X.env.cells scope.names []) pm c' ctv) :: pins) (T := T) (H := H2) (ns := ns) KO IP T2 hz (fun a => ksk_t1 f a)
      (fun Q' q => items_collect (A := X.A.in1) hr.hd IP rx (items_ext hit x2) hz q) (fun n t s3 H3 hn I3 x3 T3 => ?_) (fun s3 a3 H3 ns' I3 x3 T3 n3 e3 hp hw => ?_)
    · have hf3 := (I3.pin _ (List.mem_append_right _ (List.mem_cons_self ..))).1
      have hc3 : H3 c' = some (CodeO c' (X.env.qual ++ "<lambda>")) := x3 _ _ hco codeO_ne
      exact lam_call (N := N) (fr := fr) (js := js) (v := .int n) I3 hA hr3 hf3 hc3 S C (fun u => hb _ _ _ _ _ u) ⟨t, rfl⟩ (fun s hr4 H => hbody _ _ _ _ _ s H hr4) (hturn n hn H3 (x2.trans x3) T3)
    · refine ⟨.ref a3, H3, I3.pins_of fun p hp => I3.pin p (List.mem_append_right _ (List.mem_cons_of_mem _ hp)), rfl, hend ns' a3 H3 (x2.trans x3) T3 (fun b o e n z => by rw [← z, x2 b o e n] at n3; cases n3) e3 hp hw⟩
end SwK
set_option Elab.async false
set_option linter.all false
set_option maxRecDepth 100000
set_option maxHeartbeats 2000000
/-! The text by places; a def that stands; a promise kept; masks. -/
namespace Sw
open PySem PySem.Spec PyProof.Rows L2 LamX NdefX SwK Evl
def topS (i : Nat) : Stmt := PySem.Challenge.pw_sumsway_k62_whole_signs_over_a_pair.main.body.getD i (.Pass ⟨0, 0, 0, 0⟩)
/-- the built-in names are the built-ins -/
structure Bt (mg : Str → Option Value) : Prop where
  len_ : mg "len" = none
  range_ : mg "range" = none
  sorted_ : mg "sorted" = none
  tuple_ : mg "tuple" = none
  sum_ : mg "sum" = none
  all_ : mg "all" = none
  list_ : mg "list" = none
  reversed_ : mg "reversed" = none
  min_ : mg "min" = none
  isinstance_ : mg "isinstance" = none
  int_ : mg "int" = none
  bool_ : mg "bool" = none
theorem bb_sum : bootBuiltins "sum" = some (.builtin "sum") := by decide +kernel
theorem bb_all : bootBuiltins "all" = some (.builtin "all") := by decide +kernel
theorem bb_min : bootBuiltins "min" = some (.builtin "min") := by decide +kernel
theorem bb_range : bootBuiltins "range" = some (.type "range") := by decide +kernel
/-- the def x of the text stands, its code object at c -/
structure Df (K : PySem.W.Frag) (mg : Str → Option Value) (x : Str) (st : Stmt) (c : Addr) : Prop where
  ex : ∃ (f : Addr) (oc kV doc pm ct : Value) (od an : Option Addr) (osl : Array (Option Value)), mg x = some (.ref f) ∧ PySem.W.keepIn K (.ref f) = true ∧ PySem.W.codeIn K (.ref c) x = true ∧
    K.lookup f = some ⟨oc, od, .func (PySem.W.fnOf x x (defArgs st) (defBody st) (defScope st) .none kV doc pm an (.ref c) ct), osl⟩
/-- a def's promise, at the place where its name is looked up -/
structure Has (P : Program) (w : World) (K : PySem.W.Frag) (mg : Str → Option Value) (base : Heap) (x : Str) (k : Nat) (ps : List Str) (sp : Sp) : Prop where
  ex : ∃ (f : Addr) (fd : FuncData), mg x = some (.ref f) ∧ PySem.W.keepIn K (.ref f) = true ∧ Binds K fd ps [] ∧ FnOk P w K mg base CX0 k f fd ps sp ∧ ∃ (oc : Value) (od : Option Addr) (osl : Array (Option Value)), K.lookup f = some ⟨oc, od, .func fd, osl⟩
section
variable {P : Program} {w : World} {K : PySem.W.Frag} {mg : Str → Option Value} {base : Heap} {x : Str} {st : Stmt} {c : Addr} {k : Nat} {ps N : List Str} {sp : Sp}
/-- a def keeps its promise -/
theorem Df.has (D : Df K mg x st c) (S : FnScope N ps (defScope st)) (len : ∀ vs H Q E, sp vs H Q E → vs.length = ps.length)
    (hb : ∀ (kV doc pm : Value) (an : Option Addr) (cdv ct : Value) (us : List Value), us.length = ps.length → bindArgs (PySem.W.fnOf x x (defArgs st) (defBody st) (defScope st) .none kV doc pm an cdv ct) ⟨us, []⟩ = pure (ps.zip us))
    (hbody : ∀ (f : Addr) (A : Around) (outer : List Env) (s : Shared) (H : Hp) (vs : List V) (Q : VK) (E : XK), Room k (A.deeper (envOfC x (defScope st) s.heap.objs.size f (.ref c))) → sp vs H Q E →
      ∃ t, PSs (cxOf CX0 P w K mg base N x (defScope st) f (.ref c) A outer s H E).nox (defBody st) t ∧ t { nx := fun _ H' => Q .non H', rt := Q } (start N vs) H) : Has P w K mg base x (k + 1) ps sp := by
  obtain ⟨f, oc, kV, doc, pm, ct, od, an, osl, h1, h2, h3, h4⟩ := D.ex
  refine ⟨f, _, h1, h2, Binds.all fun us hl => hb _ _ _ _ _ _ us hl, fn_of h4 h3 S len fun A outer s H vs Q E hr hs => ?_, oc, od, osl, h4⟩
  obtain ⟨t, ht, hq⟩ := hbody f A outer s H vs Q E hr hs
  exact ⟨t, ht.nox, hq⟩
end
section
variable {X : Cx} {x : Str} {k : Nat} {ps : List Str} {sp : Sp} {e : Expr} {es : List Expr} {t : TA} {p pos : Pos}
/-- a def is called -/
theorem pe_has (h : Has X.prog X.w X.K X.mg X.base x k ps sp) (hr : Room k X.A) (hg : Gl X x) (ha : PA X (e :: es) t) (hdb : (x == ("__debug__" : Str)) = false := by decide) (he : starEach (e :: es) X.env = (false, eval e X.env) :: starEach es X.env := by rfl)
    (hpl : (backTo pos (starEach es X.env)).any (·.1) = false := by rfl) : PE X (.Call (.Name x p) (e :: es) [] pos) (tCall sp [] E0 t) := by
  obtain ⟨f, fd, h1, h2, h3, h4, _⟩ := h.ex
  exact pe_call h4 hr hg h1 h2 h3 .nil pass0 ha hdb he hpl
end
/-! ### rules that tell the written part by its name -/
section
variable {X : Cx}
theorem ixL (K : PySem.W.Frag) (h : X.K = K) : IxR X (rIxL K) := h ▸ ix_list
theorem ixT (K : PySem.W.Frag) (h : X.K = K) : IxR X (rIxT K) := h ▸ ix_tup
theorem lenK (K : PySem.W.Frag) (h : X.K = K) : CallR X (.builtin "len") (rLenS K) := h ▸ call_len_seq
theorem sumK (K : PySem.W.Frag) (h : X.K = K) (hc : X.calm = true) : CallR X (.builtin "sum") (rSum K) := h ▸ cr_sum hc
theorem allK (K : PySem.W.Frag) (h : X.K = K) (hc : X.calm = true) : CallR X (.builtin "all") (rAll K) := h ▸ cr_all hc
theorem isiK (K : PySem.W.Frag) (h : X.K = K) : CallR X (.builtin "isinstance") (rIsi K) := h ▸ call_isi
theorem inK (K : PySem.W.Frag) (h : X.K = K) : OpR X (compareOp .In) (rIn K false) := h ▸ op_in_seq
theorem catK (K : PySem.W.Frag) (h : X.K = K) : OpR X (binaryOp .Add) (rCatT K) := h ▸ op_catT
theorem eqDK (K : PySem.W.Frag) (h : X.K = K) (hu : X.A.units + 64 < cLine) : OpR X (compareOp .Eq) (rEqD K) := h ▸ op_eqD hu
theorem tupleK (K : PySem.W.Frag) (h : X.K = K) {a : Expr} {ta : TE} {p pos : Pos} (hg : Gl X "tuple") (hm : X.mg "tuple" = none) (ha : PE X a ta) (na : starEach [a] X.env = (false, eval a X.env) :: starEach [] X.env := by rfl) : PE X (.Call (.Name "tuple" p) [a] [] pos) (tThen ta (kTup K)) := h ▸ pe_tupleOf hg hm ha na
theorem listK (K : PySem.W.Frag) (h : X.K = K) {tg l : Expr} {tl : TE} (hl : PE X l tl) : PI X tg l (iList K tl) := h ▸ pi_list hl
theorem tupK (K : PySem.W.Frag) (h : X.K = K) {tg l : Expr} {tl : TE} (hl : PE X l tl) : PI X tg l (iTup K tl) := h ▸ pi_tup hl
end
/-! ### masks -/
abbrev nv (k : Nat) : V := .int (k : Int)
/-- the things of a mask -/
def bits (m : Nat) : List Nat := (List.range 16).filter fun k => m.testBit k
theorem shr_nat (m k : Nat) : ((m : Int) / 2 ^ ((k : Int).toNat)) = ((m >>> k : Nat) : Int) := by
  rw [Int.toNat_natCast, Nat.shiftRight_eq_div_pow]
  norm_cast
theorem bit_nat (m k : Nat) : Builtin.bitAnd ((m : Int) / 2 ^ ((k : Int).toNat)) 1 = b1 (m.testBit k) := by
  rw [shr_nat, show (1 : Int) = ((1 : Nat) : Int) from rfl, PyProof.Rows.bitAnd_pp (Int.natCast_nonneg _) (Int.natCast_nonneg _), Int.toNat_natCast, Int.toNat_natCast]
  rw [Nat.testBit]
  unfold b1
  rcases Nat.mod_two_eq_zero_or_one (m >>> k) with h | h
  · have e : (m >>> k) &&& 1 = 0 := by rw [Nat.and_one_is_mod]; exact h
    rw [e, Nat.and_comm, e]
    rfl
  · have e : (m >>> k) &&& 1 = 1 := by rw [Nat.and_one_is_mod]; exact h
    rw [e, Nat.and_comm, e]
    rfl
theorem or_nat (a b : Nat) : Builtin.bitOr (a : Int) (b : Int) = ((a ||| b : Nat) : Int) := by
  rw [Bits.bitOr_pp (Int.natCast_nonneg _) (Int.natCast_nonneg _), Int.toNat_natCast, Int.toNat_natCast]
theorem shl_nat (k : Nat) : (1 : Int) * (2 : Int) ^ ((k : Int).toNat) = ((1 <<< k : Nat) : Int) := by
  rw [Int.toNat_natCast, Nat.one_shiftLeft, Int.one_mul]
  norm_cast
theorem b1_eq (b : Bool) : decide (V.int (b1 b) = V.int 1) = b := by cases b <;> decide
section
variable {K : PySem.W.Frag} {σ : L2.St} {H : Hp} {ta tb te : TE}
theorem ev_shr {m k : Nat} (ha : Ev ta σ H (nv m)) (hb : Ev tb σ H (nv k)) : Ev (tOp (rI (fun _ j => 0 ≤ j) fun i j => .int (i / 2 ^ j.toNat)) ta tb) σ H (nv (m >>> k)) :=
  ev_is (ev_op ha hb (rv_I (Int.natCast_nonneg k))) (by rw [shr_nat])
/-- a mask's bit, as a number, as a test -/
theorem ev_bit {m k : Nat} (ha : Ev ta σ H (nv m)) (hb : Ev tb σ H (nv k)) : Ev (tOp (rI0 fun i j => .int (Builtin.bitAnd i j)) (tOp (rI (fun _ j => 0 ≤ j) fun i j => .int (i / 2 ^ j.toNat)) ta tb) (tC (.int 1))) σ H (.int (b1 (m.testBit k))) :=
  ev_is (ev_op (ev_op ha hb (rv_I (Int.natCast_nonneg k))) ev_c rv_I0) (by rw [bit_nat])
theorem ev_bitB {m k : Nat} (ha : Ev ta σ H (nv m)) (hb : Ev tb σ H (nv k)) :
    Ev (tOp rEq (tOp (rI0 fun i j => .int (Builtin.bitAnd i j)) (tOp (rI (fun _ j => 0 ≤ j) fun i j => .int (i / 2 ^ j.toNat)) ta tb) (tC (.int 1))) (tC (.int 1))) σ H (.bl (m.testBit k)) :=
  ev_is (ev_op (ev_bit ha hb) ev_c (rv_eq rfl)) (by rw [b1_eq])
theorem et_bit {m k : Nat} (ha : Ev ta σ H (nv m)) (hb : Ev tb σ H (nv k)) :
    EvT (tTest (tOp rEq (tOp (rI0 fun i j => .int (Builtin.bitAnd i j)) (tOp (rI (fun _ j => 0 ≤ j) fun i j => .int (i / 2 ^ j.toNat)) ta tb) (tC (.int 1))) (tC (.int 1)))) σ H (m.testBit k) := et_test (ev_bitB ha hb)
theorem ev_eqN {m k : Nat} (ha : Ev ta σ H (nv m)) (hb : Ev tb σ H (nv k)) : Ev (tOp rEq ta tb) σ H (.bl (m == k)) :=
  ev_is (ev_op ha hb (rv_eq rfl)) (by
    congr 1
    by_cases e : m = k
    · rw [e]; simp
    · have h : ¬ V.int (m : Int) = V.int (k : Int) := fun z => e (Int.ofNat.inj (V.int.inj z))
      rw [decide_eq_false h]
      exact (beq_eq_false_iff_ne.mpr e).symm)
theorem et_eqN {m k : Nat} (ha : Ev ta σ H (nv m)) (hb : Ev tb σ H (nv k)) : EvT (tTest (tOp rEq ta tb)) σ H (m == k) := et_test (ev_eqN ha hb)
theorem et_neN {m k : Nat} (ha : Ev ta σ H (nv m)) (hb : Ev tb σ H (nv k)) : EvT (tTest (tOp rNe ta tb)) σ H (m != k) :=
  et_test (ev_is (ev_op ha hb (rv_ne rfl)) (by
    congr 1
    by_cases e : m = k
    · rw [e]; simp
    · have h : ¬ V.int (m : Int) = V.int (k : Int) := fun z => e (Int.ofNat.inj (V.int.inj z))
      rw [decide_eq_false h]
      exact (bne_iff_ne.mpr e).symm))
/-- an item of a list, a tuple at a place -/
theorem ev_ixL {p : Addr} {xs : List V} {j : Nat} {v : V} (ha : Ev ta σ H (.ref p)) (hb : Ev tb σ H (nv j)) (h : SqL K H p xs) (e : xs[j]? = some v) : Ev (tOp (rIxL K) ta tb) σ H v := ev_op ha hb (rv_ixL h (atI_nat e))
theorem ev_ixT {p : Addr} {xs : List V} {j : Nat} {v : V} (ha : Ev ta σ H (.ref p)) (hb : Ev tb σ H (nv j)) (h : SqT K H p xs) (e : xs[j]? = some v) : Ev (tOp (rIxT K) ta tb) σ H v := ev_op ha hb (rv_ixT h (atI_nat e))
theorem ev_lenT {p : Addr} {xs : List V} (ha : Ev ta σ H (.ref p)) (h : SqT K H p xs) : Ev (tCB (rLenS K) (tCons ta tNil)) σ H (.int (xs.length : Int)) := by
  refine ev_cb (ea_cons ha ea_nil) fun H1 e Q k => ⟨p, xs, rfl, .inr (ex_t e h), k H1 (Ex.refl _)⟩
end
/-- a new tuple is handed back -/
def RetT (xs : List V) (H : Hp) (Q : VK) : Prop := ∀ p H2, H p = none → Evl.Ex H H2 → H2 p = some (.tup xs) → Q (.ref p) H2
theorem map_at {α β : Type} {l : List α} {i : Nat} {x : α} (f : α → β) (h : l[i]? = some x) : (l.map f)[i]? = some (f x) := by rw [List.getElem?_map, h] <;> rfl
theorem at_lt {α : Type} {l : List α} {i : Nat} {x : α} (h : l[i]? = some x) : i < l.length := (List.getElem?_eq_some_iff.mp h).1
end Sw
set_option Elab.async false
set_option linter.all false
set_option maxRecDepth 100000
set_option maxHeartbeats 4000000
/-! things_in, set_of, many_in, has_thing -/
namespace Sw
open PySem PySem.Spec PyProof.Rows L2 LamX NdefX SwK Evl
/-! ### masks and their things -/
def pre (m i : Nat) : List Nat := (List.range i).filter fun k => m.testBit k
theorem pre_succ (m i : Nat) : pre m (i + 1) = if m.testBit i = true then pre m i ++ [i] else pre m i := by
  unfold pre
  rw [List.range_succ, List.filter_append]
  by_cases h : m.testBit i = true
  · rw [if_pos h, List.filter_cons_of_pos h]
    rfl
  · rw [if_neg h, List.filter_cons_of_neg h]
    simp
theorem pre_more {m i : Nat} (h : m < 2 ^ i) : ∀ j, pre m (i + j) = pre m i
  | 0 => rfl
  | j + 1 => by
    have e : m.testBit (i + j) = false := Nat.testBit_lt_two_pow (Nat.lt_of_lt_of_le h (Nat.pow_le_pow_right (by omega) (by omega)))
    rw [show i + (j + 1) = (i + j) + 1 by omega, pre_succ, e, if_neg (by decide), pre_more h j]
theorem pre_len (m i : Nat) : (pre m i).length ≤ i := by
  unfold pre
  have := List.length_filter_le (fun k => m.testBit k) (List.range i)
  rw [List.length_range] at this
  exact this
theorem bits_len (m : Nat) : (bits m).length ≤ 16 := pre_len m 16
theorem shr_zero {m i : Nat} : m >>> i = 0 ↔ m < 2 ^ i := by
  rw [Nat.shiftRight_eq_div_pow]
  constructor
  · intro h
    rcases Nat.lt_or_ge m (2 ^ i) with q | q
    · exact q
    · have := Nat.div_pos q (Nat.two_pow_pos i)
      omega
  · exact Nat.div_eq_of_lt
theorem bits_end {m i : Nat} (h : m >>> i = 0) (hi : i ≤ 16) : pre m i = bits m := by
  have e := pre_more (shr_zero.mp h) (16 - i)
  rw [show i + (16 - i) = 16 by omega] at e
  exact e.symm
theorem mem_bits {m k : Nat} (h : m < 65536) : k ∈ bits m ↔ m.testBit k = true := by
  unfold bits
  rw [List.mem_filter, List.mem_range]
  refine ⟨fun q => q.2, fun q => ⟨?_, q⟩⟩
  rcases Nat.lt_or_ge k 16 with z | z
  · exact z
  · have e : m.testBit k = false := Nat.testBit_lt_two_pow (Nat.lt_of_lt_of_le h (by
      rw [show (65536 : Nat) = 2 ^ 16 from rfl]
      exact Nat.pow_le_pow_right (by omega) z))
    rw [e] at q
    cases q
/-- the mask of a list of things -/
def maskOf (l : List Nat) : Nat := l.foldl (fun m k => m ||| 1 <<< k) 0
theorem foldl_bit (k : Nat) : ∀ (l : List Nat) (m : Nat), (l.foldl (fun m k => m ||| 1 <<< k) m).testBit k = (m.testBit k || decide (k ∈ l))
  | [], m => by simp
  | x :: l, m => by
    rw [List.foldl_cons, foldl_bit k l]
    rw [Nat.testBit_or, Nat.one_shiftLeft, Nat.testBit_two_pow]
    by_cases e : x = k
    · subst e
      simp
    · have e' : ¬ k = x := fun z => e z.symm
      simp [e, e']
theorem bit_maskOf (l : List Nat) (k : Nat) : (maskOf l).testBit k = decide (k ∈ l) := by
  unfold maskOf
  rw [foldl_bit]
  simp
theorem lt_of_bits {m n : Nat} (h : ∀ k, m.testBit k = true → k < n) : m < 2 ^ n := by
  rcases Nat.lt_or_ge m (2 ^ n) with q | q
  · exact q
  · obtain ⟨i, hi, hb⟩ := Nat.exists_ge_and_testBit_of_ge_two_pow q
    have := h i hb
    omega
theorem maskOf_lt {l : List Nat} {n : Nat} (h : ∀ k ∈ l, k < n) : maskOf l < 2 ^ n := lt_of_bits fun k hk => by
  rw [bit_maskOf] at hk
  exact h k (of_decide_eq_true hk)
/-! ### promises -/
def spThings : Sp := fun vs H Q _ => ∃ m : Nat, vs = [nv m] ∧ m < 65536 ∧ RetL ((bits m).map nv) H Q
def spSetOf (K : PySem.W.Frag) : Sp := fun vs H Q _ => ∃ (p : Addr) (l : List Nat), vs = [.ref p] ∧ SqL K H p (l.map nv) ∧ (∀ k ∈ l, k < 16) ∧ RetV (nv (maskOf l)) H Q
def spMany : Sp := fun vs H Q _ => ∃ m : Nat, vs = [nv m] ∧ m < 65536 ∧ RetV (nv (bits m).length) H Q
def spHas : Sp := fun vs H Q _ => ∃ m k : Nat, vs = [nv m, nv k] ∧ RetV (.bl (m.testBit k)) H Q
abbrev s_things_in : Stmt := topS 1
abbrev s_set_of : Stmt := topS 2
abbrev s_many_in : Stmt := topS 3
abbrev s_has_thing : Stmt := topS 5
theorem sc_things_in : FnScope ["mask", "found", "thing"] ["mask"] (defScope s_things_in) := ⟨rfl, rfl, rfl, by decide +kernel, rfl, by decide +kernel, by decide +kernel⟩
theorem sc_set_of : FnScope ["things", "mask", "thing"] ["things"] (defScope s_set_of) := ⟨rfl, rfl, rfl, by decide +kernel, rfl, by decide +kernel, by decide +kernel⟩
theorem sc_many_in : FnScope ["mask"] ["mask"] (defScope s_many_in) := ⟨rfl, rfl, rfl, by decide +kernel, rfl, by decide +kernel, by decide +kernel⟩
theorem sc_has_thing : FnScope ["mask", "thing"] ["mask", "thing"] (defScope s_has_thing) := ⟨rfl, rfl, rfl, by decide +kernel, rfl, by decide +kernel, by decide +kernel⟩
section
variable {P : Program} {w : World} {K : PySem.W.Frag} {mg : Str → Option Value} {base : Heap} {c : Addr}
theorem ok_things_in (D : Df K mg "things_in" s_things_in c) : Has P w K mg base "things_in" 1 ["mask"] spThings := by
  refine D.has sc_things_in (fun vs H Q E h => ?_) (fun _ _ _ _ _ _ us hl => match us, hl with | [_], _ => rfl) (fun f A outer s H vs Q E hr h => ?_)
  · obtain ⟨m, rfl, _⟩ := h
    rfl
  · obtain ⟨m, rfl, hm, q⟩ := h
    refine ⟨_, (pss_cons (ps_set (i := 1) sc_things_in.nd rfl (.inl rfl) (pe_lst pa_nil))
      (pss_cons (ps_set (i := 2) sc_things_in.nd rfl (.inl rfl) pe_int)
      (pss_cons (ps_while PassesOwn.never (pt_cmpR op_gt (pe_op op_shr (pv 0) (pv 2)) pe_int (nomark _))
        (pss_cons (ps_if (pt_cmpR op_eq (pe_op op_and (pe_op op_shr (pv 0) (pv 2)) pe_int) pe_int (nomark _))
          (pss_one (ps_expr (pe_bm PySem.F.plainAttrs_list PySem.F.slot_list_append PySem.F.type_list_append mt_append (pv 1) (pa_cons (pv 2) pa_nil))))
          pss_nil)
        (pss_one (ps_set (i := 2) sc_things_in.nd rfl (.inl rfl) (pe_op op_add (pv 2) pe_int)))))
      (pss_one (ps_ret (pv 1)))))), ?_⟩
    refine q_asgL (el_lst ea_nil (by decide)) fun p H1 hp x1 h1 => ?_
    refine q_asg ev_c fun H2 x2 => ?_
    refine q_while (fun n σ H' => ∃ i : Nat, i ≤ 16 ∧ n = 16 - i ∧ σ = [some (nv m), some (.ref p), some (nv i)] ∧ Evl.Ex H H' ∧ H' p = some (.lst ((pre m i).map nv))) 16 ⟨0, by omega, rfl, rfl, x1.trans x2, x2 _ _ h1⟩ fun n σ H' hW => ?_
    obtain ⟨i, hi, rfl, rfl, x3, h3⟩ := hW
    refine ⟨decide ((0 : Int) < ((m >>> i : Nat) : Int)), et_test (ev_op (ev_shr (ev_var rfl) (ev_var rfl)) ev_c rv_I0), fun hb H4 x4 => ?_, fun hb H4 x4 => ?_⟩
    · have hb' : 0 < m >>> i := by
        have := of_decide_eq_true hb
        omega
      have hi' : i < 16 := by
        rcases Nat.lt_or_ge i 16 with z | z
        · exact z
        · have e : i = 16 := by omega
          rw [e, shr_zero.mpr hm] at hb'
          omega
      refine ⟨fun σ2 H2 => σ2 = [some (nv m), some (.ref p), some (nv (i + 1))] ∧ Evl.Ex H H2 ∧ H2 p = some (.lst ((pre m (i + 1)).map nv)), fun σ2 H2 hN => ⟨16 - (i + 1), by omega, i + 1, by omega, rfl, hN.1, hN.2.1, hN.2.2⟩, ?_⟩
      have h4 := x4 _ _ h3
      refine q_when (et_bit (ev_var rfl) (ev_var rfl)) (fun hb2 H5 x5 => ?_) (fun hb2 H5 x5 => ?_)
      · refine s_app (x5 _ _ h4) (ev_var rfl) (ev_var rfl) (by
          have := pre_len m i
          rw [List.length_map]
          omega) fun H6 x6 => ?_
        refine s_asg (ev_op (ev_var rfl) ev_c rv_I0) fun H7 x7 => ⟨rfl, (((x3.trans x4).trans (x5.trans x6)).mut hp).trans x7, ?_⟩
        rw [pre_succ, if_pos hb2, List.map_append]
        exact x7 _ _ upd_same
      · refine s_asg (ev_op (ev_var rfl) ev_c rv_I0) fun H7 x7 => ⟨rfl, (x3.trans x4).trans (x5.trans x7), ?_⟩
        rw [pre_succ, if_neg (by rw [hb2]; decide)]
        exact x7 _ _ (x5 _ _ h4)
    · have hb' : m >>> i = 0 := Nat.eq_zero_of_not_pos fun z => of_decide_eq_false hb (Int.ofNat_lt.mpr z)
      refine s_ret (ev_var rfl) fun H5 x5 => q p H5 hp ((x3.trans x4).trans x5) ?_
      rw [← bits_end hb' hi]
      exact x5 _ _ (x4 _ _ h3)
theorem ok_set_of (D : Df K mg "set_of" s_set_of c) : Has P w K mg base "set_of" 1 ["things"] (spSetOf K) := by
  refine D.has sc_set_of (fun vs H Q E h => ?_) (fun _ _ _ _ _ _ us hl => match us, hl with | [_], _ => rfl) (fun f A outer s H vs Q E hr h => ?_)
  · obtain ⟨p, l, rfl, _⟩ := h
    rfl
  · obtain ⟨p, l, rfl, hl, hk, q⟩ := h
    refine ⟨_, (pss_cons (ps_set (i := 1) sc_set_of.nd rfl (.inl rfl) pe_int)
      (pss_cons (ps_for PassesOwn.never rfl (pi_list (pv 0)) (pg_name (i := 2) sc_set_of.nd rfl (.inl rfl))
        (pss_one (ps_set (i := 1) sc_set_of.nd rfl (.inl rfl) (pe_op op_or (pv 1) (pe_op op_shl pe_int (pv 2))))))
      (pss_one (ps_ret (pv 1))))), ?_⟩
    refine q_asg ev_c fun H1 x1 => ?_
    refine q_forLn (a := p) (xs := l.map nv) (ev_var rfl) (ex_l x1 hl) (fun i σ H' => ∃ o, σ = [some (.ref p), some (nv (maskOf (l.take i))), o] ∧ Evl.Ex H H') (fun H2 x2 => ⟨none, rfl, x1.trans x2⟩) (fun i σ H' _ ⟨_, _, x⟩ => ex_l x hl) (fun i x σ H' hx hP => ?_) (fun σ H' hP => ?_)
    · obtain ⟨o, rfl, x2⟩ := hP
      obtain ⟨k, hk2, rfl⟩ : ∃ k, l[i]? = some k ∧ x = nv k := by
        rw [List.getElem?_map] at hx
        cases e : l[i]? with
        | none => rw [e] at hx; cases hx
        | some k => rw [e] at hx; exact ⟨k, rfl, (Option.some.inj hx).symm⟩
      have hk3 := hk k (List.mem_of_getElem? hk2)
      refine s_asg (ev_op (ev_var rfl) (ev_op ev_c (ev_var rfl) (rv_I ⟨Int.natCast_nonneg k, by omega, by decide⟩)) rv_I0) fun H3 x3 => ⟨some (nv k), ?_, x2.trans x3⟩
      rw [shl_nat, or_nat]
      have e : maskOf (l.take (i + 1)) = maskOf (l.take i) ||| 1 <<< k := by
        rw [List.take_add_one, hk2]
        unfold maskOf
        rw [List.foldl_append]
        rfl
      rw [e]
      rfl
    · obtain ⟨o, rfl, x2⟩ := hP
      refine s_ret (ev_var rfl) fun H3 x3 => ?_
      rw [List.length_map, List.take_length]
      exact q H3 (x2.trans x3)
theorem ok_many_in (B : Bt mg) (h_things_in : Has P w K mg base "things_in" 1 ["mask"] spThings) (D : Df K mg "many_in" s_many_in c) : Has P w K mg base "many_in" 2 ["mask"] spMany := by
  refine D.has sc_many_in (fun vs H Q E h => ?_) (fun _ _ _ _ _ _ us hl => match us, hl with | [_], _ => rfl) (fun f A outer s H vs Q E hr h => ?_)
  · obtain ⟨m, rfl, _⟩ := h
    rfl
  · obtain ⟨m, rfl, hm, q⟩ := h
    refine ⟨_, (pss_one (ps_ret (pe_callB call_len_seq (by rfl) B.len_ boot_len (pa_cons (pe_has h_things_in (hr.mono (by decide)) (by rfl) (pa_cons (pv 0) pa_nil)) pa_nil)))), ?_⟩
    refine s_ret (v := nv (bits m).length) (ev_is (ev_lenN (K := K) (el_call (ea_cons (ev_var rfl) ea_nil) (xs := (bits m).map nv) fun H1 x1 Q k E => ⟨m, rfl, hm, fun p H2 hp x2 h2 => k p H2 hp x2 h2⟩)) (by rw [List.length_map])) fun H1 x1 => q H1 x1
theorem ok_has_thing (D : Df K mg "has_thing" s_has_thing c) : Has P w K mg base "has_thing" 1 ["mask", "thing"] spHas := by
  refine D.has sc_has_thing (fun vs H Q E h => ?_) (fun _ _ _ _ _ _ us hl => match us, hl with | [_, _], _ => rfl) (fun f A outer s H vs Q E hr h => ?_)
  · obtain ⟨m, k, rfl, _⟩ := h
    rfl
  · obtain ⟨m, k, rfl, q⟩ := h
    refine ⟨_, (pss_one (ps_ret (pe_cmpR op_eq (pe_op op_and (pe_op op_shr (pv 0) (pv 1)) pe_int) pe_int (nomark _)))), ?_⟩
    exact s_ret (ev_bitB (ev_var rfl) (ev_var rfl)) fun H1 x1 => q H1 x1
end
end Sw
set_option Elab.async false
set_option linter.all false
set_option maxRecDepth 100000
set_option maxHeartbeats 4000000
/-! more words of what evaluates; kept_to, is_pair, _law_cell, _law_turn, _law_whole_cell, _law_whole -/
namespace Sw
open PySem PySem.Spec PyProof.Rows L2 LamX NdefX SwK Evl
section
variable {K : PySem.W.Frag} {σ : L2.St} {H : Hp} {ta tb te : TE}
/-- a def called with one new list -/
theorem ev_callL {sp : Sp} {E : XK} {xs : List V} {z : V} (h : EvL te σ H xs) (hs : ∀ p H1, H1 p = some (.lst xs) → Evl.Ex H H1 → ∀ Q : VK, (∀ H2, Evl.Ex H1 H2 → Q z H2) → sp [.ref p] H1 Q E) : Ev (tCall sp [] E (tCons te tNil)) σ H z := by
  intro H1 x1 Q k
  refine h H1 x1 _ fun p H2 hp x2 h2 => ?_
  exact hs p H2 h2 (x1.trans x2) Q fun H3 x3 => k H3 (x2.trans x3)
/-- sum, all of a new list -/
theorem ev_sum {ns : List Int} (h : EvL te σ H (ns.map V.int)) : Ev (tCB (rSum K) (tCons te tNil)) σ H (.int ns.sum) := by
  intro H1 x1 Q k
  refine h H1 x1 _ fun p H2 hp x2 h2 => ?_
  exact ⟨p, ns, rfl, .inl (.inl h2), k H2 x2⟩
theorem ev_all {bs : List Bool} (h : EvL te σ H (bs.map V.bl)) : Ev (tCB (rAll K) (tCons te tNil)) σ H (.bl (bs.all id)) := by
  intro H1 x1 Q k
  refine h H1 x1 _ fun p H2 hp x2 h2 => ?_
  exact ⟨p, bs, rfl, .inl (.inl h2), k H2 x2⟩
/-- tuple(x) of a list that stands, of a new list -/
theorem eu_tupleL {p : Addr} {xs : List V} (h : Ev te σ H (.ref p)) (hl : SqL K H p xs) : EvU (tThen te (kTup K)) σ H xs := by
  intro H1 x1 Q k
  refine h H1 x1 _ fun H2 x2 => .inl ⟨p, xs, rfl, ex_l (x1.trans x2) hl, fun q hq => ?_⟩
  exact k q _ (fresh_back x2 hq) (x2.trans (Ex.new hq)) upd_same
theorem eu_tupleN {xs : List V} (h : EvL te σ H xs) : EvU (tThen te (kTup K)) σ H xs := by
  intro H1 x1 Q k
  refine h H1 x1 _ fun p H2 hp x2 h2 => .inl ⟨p, xs, rfl, .inl (.inl h2), fun q hq => ?_⟩
  exact k q _ (fresh_back x2 hq) (x2.trans (Ex.new hq)) upd_same
end
theorem getN {l : List Nat} {i : Nat} (h : i < l.length) : (l.map nv)[i]? = some (nv (l.getD i 0)) := by
  rw [List.getElem?_map, List.getD_eq_getElem?_getD, List.getElem?_eq_getElem h]
  rfl
theorem getZ {l : List Int} {i : Nat} (h : i < l.length) : (l.map V.int)[i]? = some (.int (l.getD i 0)) := by
  rw [List.getElem?_map, List.getD_eq_getElem?_getD, List.getElem?_eq_getElem h]
  rfl
/-- an order's test: a at or beneath b -/
def le (o : List Nat) (a b : Nat) : Bool := (o.getD b 0).testBit a
/-- the things of a mask, beneath one another as they were -/
def kept (o : List Nat) (m : Nat) : List Nat := (bits m).map fun b => maskOf ((List.range (bits m).length).filter fun k => le o ((bits m).getD k 0) b)
def spKept (K : PySem.W.Frag) : Sp := fun vs H Q _ => ∃ (p : Addr) (o : List Nat) (m : Nat), vs = [.ref p, nv m] ∧ SqT K H p (o.map nv) ∧ m < 65536 ∧ (∀ k ∈ bits m, k < o.length) ∧ RetT ((kept o m).map nv) H Q
def spIsPair (K : PySem.W.Frag) : Sp := fun vs H Q _ => ∃ (p1 p2 p3 p4 : Addr) (o q u d : List Nat), vs = [.ref p1, .ref p2, .ref p3, .ref p4] ∧ SqT K H p1 (o.map nv) ∧ SqT K H p2 (q.map nv) ∧ SqL K H p3 (u.map nv) ∧ SqL K H p4 (d.map nv) ∧
  o.length ≤ 16 ∧ q.length ≤ 16 ∧ u.length = o.length ∧ d.length = q.length ∧ (∀ b, b < q.length → d.getD b 0 < o.length) ∧ (∀ a b, a < o.length → b < q.length → le q (u.getD a 0) b = le o a (d.getD b 0)) ∧ RetV (.bl true) H Q
def spCell (K : PySem.W.Frag) : Sp := fun vs H Q _ => ∃ (p : Addr) (ns : List Int) (k : Nat), vs = [.ref p, nv k] ∧ SqL K H p (ns.map V.int) ∧ ∀ r, RetV (.int r) H Q
def spTurn : Sp := fun vs H Q _ => ∃ (c k : Int), vs = [.int c, .int k] ∧ -1000 ≤ k ∧ k ≤ 1000 ∧ ∀ r, 0 ≤ r → r < 2147483629 → RetV (.int r) H Q
def spWholeCell (K : PySem.W.Frag) : Sp := fun vs H Q _ => ∃ (p : Addr) (ns : List Int), vs = [.ref p] ∧ SqL K H p (ns.map V.int) ∧ ns.length ≤ 1000 ∧ ∀ r, RetV (.int r) H Q
def spWholeI : Sp := fun vs H Q _ => ∃ i : Int, vs = [.int i] ∧ RetV (.bl true) H Q
abbrev s_kept_to : Stmt := topS 6
theorem sc_kept_to : FnScope ["order", "mask", "things", "masks", "b", "k"] ["order", "mask"] (defScope s_kept_to) := ⟨rfl, rfl, rfl, by decide +kernel, rfl, by decide +kernel, by decide +kernel⟩
abbrev s_is_pair : Stmt := topS 11
theorem sc_is_pair : FnScope ["one", "other", "up", "down", "a", "b"] ["one", "other", "up", "down"] (defScope s_is_pair) := ⟨rfl, rfl, rfl, by decide +kernel, rfl, by decide +kernel, by decide +kernel⟩
abbrev s_law_cell : Stmt := topS 15
theorem sc_law_cell : FnScope ["_law_script", "_law_k"] ["_law_script", "_law_k"] (defScope s_law_cell) := ⟨rfl, rfl, rfl, by decide +kernel, rfl, by decide +kernel, by decide +kernel⟩
abbrev s_law_turn : Stmt := topS 16
theorem sc_law_turn : FnScope ["_law_cell_here", "_law_k", "_law_near"] ["_law_cell_here", "_law_k"] (defScope s_law_turn) := ⟨rfl, rfl, rfl, by decide +kernel, rfl, by decide +kernel, by decide +kernel⟩
abbrev s_law_whole_cell : Stmt := topS 17
theorem sc_law_whole_cell : FnScope ["_law_script", "_law_found", "_law_k"] ["_law_script"] (defScope s_law_whole_cell) := ⟨rfl, rfl, rfl, by decide +kernel, rfl, by decide +kernel, by decide +kernel⟩
abbrev s_law_whole : Stmt := topS 31
theorem sc_law_whole : FnScope ["_law_found"] ["_law_found"] (defScope s_law_whole) := ⟨rfl, rfl, rfl, by decide +kernel, rfl, by decide +kernel, by decide +kernel⟩
theorem mod_lt (a : Int) {b : Int} (h : 0 < b) : 0 ≤ a % b ∧ a % b < b := ⟨Int.emod_nonneg a (by omega), Int.emod_lt_of_pos a h⟩
section
variable {P : Program} {w : World} {K : PySem.W.Frag} {mg : Str → Option Value} {base : Heap} {c : Addr}
theorem ok_kept_to (B : Bt mg) (h_things_in : Has P w K mg base "things_in" 1 ["mask"] spThings) (h_set_of : Has P w K mg base "set_of" 1 ["things"] (spSetOf K)) (h_has_thing : Has P w K mg base "has_thing" 1 ["mask", "thing"] spHas)
    (D : Df K mg "kept_to" s_kept_to c) : Has P w K mg base "kept_to" 2 ["order", "mask"] (spKept K) := by
  refine D.has sc_kept_to (fun vs H Q E h => ?_) (fun _ _ _ _ _ _ us hl => match us, hl with | [_, _], _ => rfl) (fun f A outer s H vs Q E hr h => ?_)
  · obtain ⟨p, o, m, rfl, _⟩ := h
    rfl
  · obtain ⟨p, o, m, rfl, ho, hm, hk, q⟩ := h
    refine ⟨_, (pss_cons (ps_set (i := 2) sc_kept_to.nd rfl (.inr rfl) (pe_has h_things_in (hr.mono (by decide)) (by rfl) (pa_cons (pv 1) pa_nil)))
  (pss_cons (ps_set (i := 3) sc_kept_to.nd rfl (.inl rfl) (pe_lst pa_nil))
  (pss_cons (ps_for PassesOwn.never rfl (listK K rfl (pv 2)) (pg_name (i := 4) sc_kept_to.nd rfl (.inr rfl))
    (pss_one (ps_expr (pe_bm PySem.F.plainAttrs_list PySem.F.slot_list_append PySem.F.type_list_append mt_append (pv 3) (pa_cons (pe_has h_set_of (hr.mono (by decide)) (by rfl) (pa_cons (pe_lc (own := [("k", 5)]) (g := gName 5) rfl sc_kept_to.nd (pi_range1 (by rfl) B.range_ (pa_cons (pe_callB (lenK K rfl) (by rfl) B.len_ boot_len (pa_cons (pv 2) pa_nil)) pa_nil)) (blkOk_by (by kernel_rfl)) (fun _ _ _ _ _ => pg_name (i := 5) sc_kept_to.nd rfl (.inl rfl)) (fun _ _ _ _ _ => (pts_one (pt_val (pe_has h_has_thing (hr.mono (by decide)) (by rfl) (pa_cons (pe_ix (ixT K rfl) (pv 0) (pv 4) (fun _ _ => rfl)) (pa_cons (pe_ix (ixL K rfl) (pv 2) (pv 5) (fun _ _ => rfl)) pa_nil)))))) (fun _ _ _ _ _ => (pv 5))) pa_nil)) pa_nil)))))
  (pss_one (ps_ret (tupleK K rfl (by rfl) B.tuple_ (pv 3)))))))
      , ?_⟩
    refine q_asgL (xs := (bits m).map nv) (el_call (ea_cons (ev_var rfl) ea_nil) fun H1 x1 Q k E => ⟨m, rfl, hm, fun p H2 hp x2 h2 => k p H2 hp x2 h2⟩) fun pt H1 hpt x1 h1 => ?_
    refine q_asgL (el_lst ea_nil (by decide)) fun pm H2 hpm x2 h2 => ?_
    have hpm0 : H pm = none := fresh_back x1 hpm
    refine q_forLn (a := pt) (xs := (bits m).map nv) (ev_var rfl) (.inl (.inl (x2 _ _ h1))) (fun i σ H' => ∃ a b, σ = [some (.ref p), some (nv m), some (.ref pt), some (.ref pm), a, b] ∧ Evl.Ex H H' ∧ H' pt = some (.lst ((bits m).map nv)) ∧ H' pm = some (.lst (((kept o m).take i).map nv)))
      (fun H3 x3 => ⟨none, none, rfl, x1.trans (x2.trans x3), x3 _ _ (x2 _ _ h1), x3 _ _ h2⟩) (fun i σ H' _ ⟨_, _, _, _, z, _⟩ => .inl (.inl z)) (fun i x σ H' hx hP => ?_) (fun σ H' hP => ?_)
    · obtain ⟨a, b, rfl, x3, ht3, hm3⟩ := hP
      have hi : i < (bits m).length := by
        have := at_lt hx
        rw [List.length_map] at this
        exact this
      rw [getN hi] at hx
      obtain rfl := Option.some.inj hx
      have hb : (bits m).getD i 0 < o.length := hk _ (by
        rw [List.getD_eq_getElem?_getD, List.getElem?_eq_getElem hi]
        exact List.getElem_mem hi)
      have hl := bits_len m
      refine s_app (v := nv (maskOf ((List.range (bits m).length).filter fun k => le o ((bits m).getD k 0) ((bits m).getD i 0)))) hm3 (ev_var rfl) ?_ (by
        rw [List.length_map, List.length_take]
        unfold kept
        rw [List.length_map]
        omega) fun H4 x4 => ⟨_, _, rfl, (x3.trans x4).mut hpm0, ?_, ?_⟩
      · refine ev_callL (xs := ((List.range (bits m).length).filter fun k => le o ((bits m).getD k 0) ((bits m).getD i 0)).map nv) ?_ fun pl H4 hl4 x4 Q' k => ⟨pl, _, rfl, .inl (.inl hl4), fun k hk => ?_, fun H5 x5 => k H5 x5⟩
        · refine el_lcR1 (n := ((bits m).length : Int)) (fun k => le o ((bits m).getD k 0) ((bits m).getD i 0)) nv (ea_cons (ev_is (ev_len (ev_var rfl) (.inl (.inl ht3))) (by rw [List.length_map])) ea_nil) (by omega) (fun x => rfl) (fun k H4 x4 hk => ?_) (fun k H4 x4 hk _ => ev_var rfl)
          have hk' : k < (bits m).length := by omega
          refine et_B (ev_call (vs := [nv (o.getD ((bits m).getD i 0) 0), nv ((bits m).getD k 0)]) (ea_cons (ev_ixT (ev_var rfl) (ev_var rfl) (ex_t (x3.trans x4) ho) (getN hb)) (ea_cons (ev_ixL (ev_var rfl) (ev_var rfl) (ex_l x4 (.inl (.inl ht3))) (getN hk')) ea_nil)) ?_)
          exact fun H5 x5 Q' k' E => ⟨_, _, rfl, fun H6 x6 => k' H6 x6⟩
        · have := List.mem_range.mp (List.mem_filter.mp hk).1
          omega
      · rw [upd_ne (fun z => by rw [z] at h1; rw [h1] at hpm; cases hpm)]
        exact x4 _ _ ht3
      · rw [upd_same, List.take_add_one]
        have e : (kept o m)[i]? = some (maskOf ((List.range (bits m).length).filter fun k => le o ((bits m).getD k 0) ((bits m).getD i 0))) := by
          unfold kept
          rw [List.getElem?_map, List.getD_eq_getElem?_getD, List.getElem?_eq_getElem hi]
          rfl
        rw [e, List.map_append]
        rfl
    · obtain ⟨a, b, rfl, x3, ht3, hm3⟩ := hP
      have e : (kept o m).take ((bits m).map nv).length = kept o m := List.take_of_length_le (by unfold kept; rw [List.length_map, List.length_map]; exact Nat.le_refl _)
      rw [e] at hm3
      exact s_retU (eu_tupleL (ev_var rfl) (.inl (.inl hm3))) fun p4 H4 hp4 x4 h4 => q p4 H4 (fresh_back x3 hp4) (x3.trans x4) h4
theorem ok_is_pair (B : Bt mg) (D : Df K mg "is_pair" s_is_pair c) : Has P w K mg base "is_pair" 1 ["one", "other", "up", "down"] (spIsPair K) := by
  refine D.has sc_is_pair (fun vs H Q E h => ?_) (fun _ _ _ _ _ _ us hl => match us, hl with | [_, _, _, _], _ => rfl) (fun f A outer s H vs Q E hr h => ?_)
  · obtain ⟨p1, p2, p3, p4, o, q, u, d, rfl, _⟩ := h
    rfl
  · obtain ⟨p1, p2, p3, p4, o, q, u, d, rfl, h1, h2, h3, h4, l1, l2, l3, l4, hd, adj, hq⟩ := h
    refine ⟨_, (pss_cons (ps_for PassesOwn.never rfl (pi_range1 (by rfl) B.range_ (pa_cons (pe_callB (lenK K rfl) (by rfl) B.len_ boot_len (pa_cons (pv 0) pa_nil)) pa_nil)) (pg_name (i := 4) sc_is_pair.nd rfl (.inl rfl))
    (pss_one (ps_for PassesOwn.never rfl (pi_range1 (by rfl) B.range_ (pa_cons (pe_callB (lenK K rfl) (by rfl) B.len_ boot_len (pa_cons (pv 1) pa_nil)) pa_nil)) (pg_name (i := 5) sc_is_pair.nd rfl (.inl rfl))
      (pss_one (ps_if (pt_cmpR op_ne (pe_op op_and (pe_op op_shr (pe_ix (ixT K rfl) (pv 1) (pv 5) (fun _ _ => rfl)) (pe_ix (ixL K rfl) (pv 2) (pv 4) (fun _ _ => rfl))) pe_int) (pe_op op_and (pe_op op_shr (pe_ix (ixT K rfl) (pv 0) (pe_ix (ixL K rfl) (pv 3) (pv 5) (fun _ _ => rfl)) (fun _ _ => rfl)) (pv 4)) pe_int) (nomark _))
        (pss_one (ps_ret pe_bl))
        pss_nil)))))
  (pss_one (ps_ret pe_bl)))
      , ?_⟩
    refine q_forR1 (n := (o.length : Int)) (ea_cons (ev_is (ev_lenT (ev_var rfl) h1) (by rw [List.length_map])) ea_nil) (by omega) (fun i σ H' => ∃ a b, σ = [some (.ref p1), some (.ref p2), some (.ref p3), some (.ref p4), a, b] ∧ Evl.Ex H H') (fun H1 x1 => ⟨none, none, rfl, x1⟩) (fun i σ H' hi hP => ?_) (fun σ H' hP => ?_)
    · obtain ⟨a, b, rfl, x1⟩ := hP
      refine s_forR1 (n := (q.length : Int)) (ea_cons (ev_is (ev_lenT (ev_var rfl) (ex_t x1 h2)) (by rw [List.length_map])) ea_nil) (by omega) (fun j σ H' => ∃ b, σ = [some (.ref p1), some (.ref p2), some (.ref p3), some (.ref p4), some (nv i), b] ∧ Evl.Ex H H') (fun H1 x2 => ⟨_, rfl, x1.trans x2⟩) (fun j σ H' hj hP => ?_) (fun σ H' hP => ?_)
      · obtain ⟨b, rfl, x2⟩ := hP
        have hi' : i < o.length := by omega
        have hj' : j < q.length := by omega
        refine s_when (b := false) (et_test (ev_is (ev_op (ev_bit (m := q.getD j 0) (k := u.getD i 0) (ev_ixT (ev_var rfl) (ev_var rfl) (ex_t x2 h2) (getN hj')) (ev_ixL (ev_var rfl) (ev_var rfl) (ex_l x2 h3) (getN (by omega))))
          (ev_bit (m := o.getD (d.getD j 0) 0) (k := i) (ev_ixT (ev_var rfl) (ev_ixL (ev_var rfl) (ev_var rfl) (ex_l x2 h4) (getN (by omega))) (ex_t x2 h1) (getN (hd j hj'))) (ev_var rfl)) (rv_ne rfl)) ?_)) (fun z => by cases z) (fun _ H3 x3 => ⟨_, rfl, x2.trans x3⟩)
        have e := adj i j hi' hj'
        unfold le at e
        rw [e, decide_eq_true rfl]
        rfl
      · obtain ⟨b, rfl, x2⟩ := hP
        exact ⟨_, _, rfl, x2⟩
    · obtain ⟨a, b, rfl, x1⟩ := hP
      exact s_ret ev_c fun H2 x2 => hq H2 (x1.trans x2)
theorem ok_law_cell (B : Bt mg) (D : Df K mg "_law_cell" s_law_cell c) : Has P w K mg base "_law_cell" 1 ["_law_script", "_law_k"] (spCell K) := by
  refine D.has sc_law_cell (fun vs H Q E h => ?_) (fun _ _ _ _ _ _ us hl => match us, hl with | [_, _], _ => rfl) (fun f A outer s H vs Q E hr h => ?_)
  · obtain ⟨p, ns, k, rfl, _⟩ := h
    rfl
  · obtain ⟨p, ns, k, rfl, h1, hq⟩ := h
    refine ⟨_, (pss_cons (ps_if (pt_cmpR op_lt (pv 1) (pe_callB (lenK K rfl) (by rfl) B.len_ boot_len (pa_cons (pv 0) pa_nil)) (nomark _))
    (pss_one (ps_ret (pe_ix (ixL K rfl) (pv 0) (pv 1) (fun _ _ => rfl))))
    pss_nil)
  (pss_one (ps_ret pe_int)))
      , ?_⟩
    refine q_when (b := decide ((k : Int) < (ns.length : Int))) (et_test (ev_op (ev_var rfl) (ev_is (ev_len (ev_var rfl) h1) (by rw [List.length_map])) rv_I0)) (fun hb H1 x1 => ?_) (fun hb H1 x1 => ?_)
    · have hk : k < ns.length := by
        have := of_decide_eq_true hb
        omega
      exact s_ret (ev_ixL (ev_var rfl) (ev_var rfl) (ex_l x1 h1) (getZ hk)) fun H2 x2 => hq _ H2 (x1.trans x2)
    · exact s_ret ev_c fun H2 x2 => hq _ H2 (x1.trans x2)
theorem ok_law_turn (D : Df K mg "_law_turn" s_law_turn c) : Has P w K mg base "_law_turn" 1 ["_law_cell_here", "_law_k"] spTurn := by
  refine D.has sc_law_turn (fun vs H Q E h => ?_) (fun _ _ _ _ _ _ us hl => match us, hl with | [_, _], _ => rfl) (fun f A outer s H vs Q E hr h => ?_)
  · obtain ⟨a, k, rfl, _⟩ := h
    rfl
  · obtain ⟨a, k, rfl, h1, h2, hq⟩ := h
    refine ⟨_, (pss_cons (ps_set (i := 2) sc_law_turn.nd rfl (.inl rfl) (pe_op op_mod (pe_op op_add (pe_op op_add (pe_op op_add (pv 0) (pe_op op_mul (pe_op op_mul pe_int (pv 1)) (pv 1))) (pe_op op_mul pe_int (pv 1))) pe_int) pe_int))
  (pss_cons (ps_set (i := 2) sc_law_turn.nd rfl (.inl rfl) (pe_op op_mod (pe_op op_mul (pv 2) (pv 2)) pe_int))
  (pss_one (ps_ret (pe_op op_mod (pe_op op_mul (pe_op op_add (pv 2) (pe_op op_mul pe_int (pe_op op_add (pv 1) pe_int))) pe_int) pe_int)))))
      , ?_⟩
    refine q_asg (ev_op (ev_op (ev_op (ev_op (ev_var rfl) (ev_op (ev_op ev_c (ev_var rfl) (rv_I (.inl (by decide)))) (ev_var rfl) (rv_I (.inr (by omega)))) rv_I0) (ev_op ev_c (ev_var rfl) (rv_I (.inl (by decide)))) rv_I0) ev_c rv_I0) ev_c (rv_I (by show (0 : Int) < 2147483647; decide))) fun H1 x1 => ?_
    have m1 := mod_lt (a + 977 * k * k + 31 * k + 1) (b := 2147483647) (by decide)
    generalize (a + 977 * k * k + 31 * k + 1) % 2147483647 = r at m1 ⊢
    refine q_asg (ev_op (ev_op (ev_var rfl) (ev_var rfl) (rv_I (.inl (by omega)))) ev_c (rv_I (by show (0 : Int) < 2147483647; decide))) fun H2 x2 => ?_
    refine s_ret (ev_op (ev_op (ev_op (ev_var rfl) (ev_op ev_c (ev_op (ev_var rfl) ev_c rv_I0) (rv_I (.inl (by decide)))) rv_I0) ev_c (rv_I (.inr (by decide)))) ev_c (rv_I (by show (0 : Int) < 2147483629; decide))) fun H3 x3 => ?_
    have m2 := mod_lt ((r * r % 2147483647 + 40692 * (k + 3)) * 69621) (b := 2147483629) (by decide)
    exact hq _ m2.1 m2.2 H3 (x1.trans (x2.trans x3))
theorem ok_law_whole_cell (B : Bt mg) (D : Df K mg "_law_whole_cell" s_law_whole_cell c) : Has P w K mg base "_law_whole_cell" 1 ["_law_script"] (spWholeCell K) := by
  refine D.has sc_law_whole_cell (fun vs H Q E h => ?_) (fun _ _ _ _ _ _ us hl => match us, hl with | [_], _ => rfl) (fun f A outer s H vs Q E hr h => ?_)
  · obtain ⟨p, ns, rfl, _⟩ := h
    rfl
  · obtain ⟨p, ns, rfl, h1, hl, hq⟩ := h
    refine ⟨_, (pss_cons (ps_set (i := 1) sc_law_whole_cell.nd rfl (.inl rfl) (pe_callB (lenK K rfl) (by rfl) B.len_ boot_len (pa_cons (pv 0) pa_nil)))
  (pss_cons (ps_for PassesOwn.never rfl (pi_range1 (by rfl) B.range_ (pa_cons (pe_callB (lenK K rfl) (by rfl) B.len_ boot_len (pa_cons (pv 0) pa_nil)) pa_nil)) (pg_name (i := 2) sc_law_whole_cell.nd rfl (.inl rfl))
    (pss_one (ps_set (i := 1) sc_law_whole_cell.nd rfl (.inl rfl) (pe_op op_mod (pe_op op_add (pe_op op_add (pe_op op_mul (pv 1) pe_int) (pe_ix (ixL K rfl) (pv 0) (pv 2) (fun _ _ => rfl))) (pv 2)) pe_int))))
  (pss_one (ps_ret (pv 1)))))
      , ?_⟩
    refine q_asg (ev_is (ev_len (ev_var rfl) h1) (by rw [List.length_map])) fun H1 x1 => ?_
    refine q_forR1 (n := (ns.length : Int)) (ea_cons (ev_is (ev_len (ev_var rfl) (ex_l x1 h1)) (by rw [List.length_map])) ea_nil) (by omega) (fun i σ H' => ∃ (r : Int) (b : Option V), σ = [some (.ref p), some (.int r), b] ∧ 0 ≤ r ∧ r < 2305843009213693951 ∧ Evl.Ex H H') (fun H2 x2 => ⟨_, none, rfl, by omega, by omega, x1.trans x2⟩) (fun i σ H' hi hP => ?_) (fun σ H' hP => ?_)
    · obtain ⟨r, b, rfl, r0, r1, x2⟩ := hP
      have hi' : i < ns.length := by omega
      refine s_asg (ev_op (ev_op (ev_op (ev_op (ev_var rfl) ev_c (rv_I (.inl (by omega)))) (ev_ixL (ev_var rfl) (ev_var rfl) (ex_l x2 h1) (getZ hi')) rv_I0) (ev_var rfl) rv_I0) ev_c (rv_I (by show (0 : Int) < 2305843009213693951; decide))) fun H3 x3 => ⟨_, _, rfl, ?_, ?_, x2.trans x3⟩
      · exact (mod_lt _ (by decide)).1
      · exact (mod_lt _ (by decide)).2
    · obtain ⟨r, b, rfl, r0, r1, x2⟩ := hP
      exact s_ret (ev_var rfl) fun H3 x3 => hq _ H3 (x2.trans x3)
theorem ok_law_whole (B : Bt mg) (D : Df K mg "_law_whole" s_law_whole c) : Has P w K mg base "_law_whole" 1 ["_law_found"] spWholeI := by
  refine D.has sc_law_whole (fun vs H Q E h => ?_) (fun _ _ _ _ _ _ us hl => match us, hl with | [_], _ => rfl) (fun f A outer s H vs Q E hr h => ?_)
  · obtain ⟨i, rfl, _⟩ := h
    rfl
  · obtain ⟨i, rfl, hq⟩ := h
    refine ⟨_, (pss_one (ps_ret (pe_and (pe_callB (isiK K rfl) (by rfl) B.isinstance_ boot_isinstance (pa_cons (pv 0) (pa_cons (pe_bltn (v := .ty "int") (by rfl) B.int_ boot_int rfl) pa_nil))) (pe_one (pe_not (pe_callB (isiK K rfl) (by rfl) B.isinstance_ boot_isinstance (pa_cons (pv 0) (pa_cons (pe_bltn (v := .ty "bool") (by rfl) B.bool_ boot_bool rfl) pa_nil))))))))
      , ?_⟩
    refine s_ret (v := .bl true) (ev_is (ev_andV (a := true) (b := true) (ev_cb (vs := [.int i, .ty "int"]) (ea_cons (ev_var rfl) (ea_cons ev_c ea_nil)) ?_) fun _ => ev_is (ev_notV (a := false) (ev_cb (vs := [.int i, .ty "bool"]) (ea_cons (ev_var rfl) (ea_cons ev_c ea_nil)) ?_)) rfl) rfl) fun H1 x1 => hq H1 x1
    · exact fun H1 x1 Q k => ⟨_, _, _, _, true, rfl, .ty "int", .base (.int i), kit_ty (by decide +kernel), k H1 (Evl.Ex.refl _)⟩
    · exact fun H1 x1 Q k => ⟨_, _, _, _, false, rfl, .ty "bool", .base (.int i), kit_ty (by decide +kernel), k H1 (Evl.Ex.refl _)⟩
end
end Sw
set_option Elab.async false
set_option linter.all false
set_option maxRecDepth 100000
set_option maxHeartbeats 4000000
/-! orders as masks; _law_renumbered, _law_order -/
namespace Sw
open PySem PySem.Spec PyProof.Rows L2 LamX NdefX SwK Evl
/-- an order: a tuple of masks -/
structure IsOrd (o : List Nat) : Prop where
  pos : 1 ≤ o.length
  top : o.length ≤ 7
  low : ∀ b, b < o.length → ∀ k, (o.getD b 0).testBit k = true → k < o.length
  po : Po o.length (le o)
/-- each mask has its own place, else lesser ones, and with each all of its -/
def Down (ms : List Nat) : Prop := ∀ b, b < ms.length → (ms.getD b 0).testBit b = true ∧ (∀ k, (ms.getD b 0).testBit k = true → k ≤ b) ∧ ∀ k j, (ms.getD b 0).testBit k = true → (ms.getD k 0).testBit j = true → (ms.getD b 0).testBit j = true
theorem getD_left {α : Type} {l r : List α} {i : Nat} {d : α} (h : i < l.length) : (l ++ r).getD i d = l.getD i d := by
  rw [List.getD_eq_getElem?_getD, List.getElem?_append_left h, ← List.getD_eq_getElem?_getD]
theorem getD_last {α : Type} {l : List α} {x d : α} : (l ++ [x]).getD l.length d = x := by
  rw [List.getD_eq_getElem?_getD, List.getElem?_append_right (Nat.le_refl _), Nat.sub_self]
  rfl
/-- a mask that is being made, at place t -/
structure Part (ms : List Nat) (t m : Nat) : Prop where
  own : m.testBit t = true
  low : ∀ k, m.testBit k = true → k ≤ t
  clo : ∀ k j, m.testBit k = true → k ≠ t → (ms.getD k 0).testBit j = true → m.testBit j = true
theorem Part.one (ms : List Nat) (t : Nat) : Part ms t (1 <<< t) := by
  have e : ∀ k, (1 <<< t).testBit k = true → k = t := fun k h => by
    rw [Nat.one_shiftLeft, Nat.testBit_two_pow] at h
    exact (of_decide_eq_true h).symm
  refine ⟨?_, fun k h => by rw [e k h]; exact Nat.le_refl _, fun k j h ne => absurd (e k h) ne⟩
  rw [Nat.one_shiftLeft, Nat.testBit_two_pow]
  exact decide_eq_true rfl
theorem Part.more {ms : List Nat} {t m o : Nat} (D : Down ms) (p : Part ms t m) (ho : o < t) (hl : t = ms.length) : Part ms t (m ||| ms.getD o 0) := by
  have d := D o (by omega)
  refine ⟨by rw [Nat.testBit_or, p.own]; rfl, fun k h => ?_, fun k j h ne hj => ?_⟩
  · rw [Nat.testBit_or, Bool.or_eq_true] at h
    rcases h with h | h
    · exact p.low k h
    · have := d.2.1 k h
      omega
  · rw [Nat.testBit_or, Bool.or_eq_true] at h ⊢
    rcases h with h | h
    · exact .inl (p.clo k j h ne hj)
    · exact .inr (d.2.2 k j h hj)
theorem Down.snoc {ms : List Nat} {m : Nat} (D : Down ms) (p : Part ms ms.length m) : Down (ms ++ [m]) := fun b hb => by
  rw [List.length_append, List.length_singleton] at hb
  by_cases e : b < ms.length
  · rw [getD_left e]
    refine ⟨(D b e).1, (D b e).2.1, fun k j h1 h2 => ?_⟩
    have := (D b e).2.1 k h1
    rw [getD_left (by omega)] at h2
    exact (D b e).2.2 k j h1 h2
  · have e : b = ms.length := by omega
    subst e
    rw [getD_last]
    refine ⟨p.own, p.low, fun k j h1 h2 => ?_⟩
    by_cases e : k = ms.length
    · subst e
      rw [getD_last] at h2
      exact h2
    · have := p.low k h1
      rw [getD_left (by omega)] at h2
      exact p.clo k j h1 e h2
/-- what the renumbering makes -/
def Renum (ms nu o : List Nat) : Prop := o.length = ms.length ∧ ∀ t, t < ms.length → ∀ k, (o.getD (nu.getD t 0) 0).testBit k = true ↔ ∃ u, u < ms.length ∧ (ms.getD t 0).testBit u = true ∧ nu.getD u 0 = k
theorem perm_inj {nu : List Nat} {n : Nat} (h : nu.Perm (List.range n)) {i j : Nat} (hi : i < n) (hj : j < n) (e : nu.getD i 0 = nu.getD j 0) : i = j := by
  have hl := h.length_eq
  rw [List.length_range] at hl
  have hn : nu.Nodup := h.nodup_iff.mpr List.nodup_range
  rw [List.getD_eq_getElem?_getD, List.getD_eq_getElem?_getD, List.getElem?_eq_getElem (by omega), List.getElem?_eq_getElem (by omega)] at e
  exact (List.getElem_inj hn).mp e
theorem perm_lt {nu : List Nat} {n : Nat} (h : nu.Perm (List.range n)) {i : Nat} (hi : i < n) : nu.getD i 0 < n := by
  have hl := h.length_eq
  rw [List.length_range] at hl
  rw [List.getD_eq_getElem?_getD, List.getElem?_eq_getElem (by omega)]
  exact List.mem_range.mp (h.mem_iff.mp (List.getElem_mem (by omega)))
theorem perm_at {nu : List Nat} {n : Nat} (h : nu.Perm (List.range n)) {k : Nat} (hk : k < n) : ∃ i, i < n ∧ nu.getD i 0 = k := by
  obtain ⟨i, hi, e⟩ := List.mem_iff_getElem.mp (h.mem_iff.mpr (List.mem_range.mpr hk))
  have hl := h.length_eq
  rw [List.length_range] at hl
  refine ⟨i, by omega, ?_⟩
  rw [List.getD_eq_getElem?_getD, List.getElem?_eq_getElem hi]
  exact e
theorem Renum.ord {ms nu o : List Nat} (r : Renum ms nu o) (D : Down ms) (h : nu.Perm (List.range ms.length)) (h1 : 1 ≤ ms.length) (h2 : ms.length ≤ 7) : IsOrd o := by
  have lem : ∀ {t k}, t < ms.length → (le o k (nu.getD t 0) = true ↔ ∃ u, u < ms.length ∧ (ms.getD t 0).testBit u = true ∧ nu.getD u 0 = k) := fun {t k} ht => r.2 t ht k
  refine ⟨by rw [r.1]; exact h1, by rw [r.1]; exact h2, fun b hb k hk => ?_, ⟨fun a ha => ?_, fun a b d ha hb hd h3 h4 => ?_, fun a b ha hb h3 h4 => ?_⟩⟩
  · rw [r.1] at hb ⊢
    obtain ⟨t, ht, rfl⟩ := perm_at h hb
    obtain ⟨u, hu, _, rfl⟩ := (lem ht).mp hk
    exact perm_lt h hu
  · rw [r.1] at ha
    obtain ⟨t, ht, rfl⟩ := perm_at h ha
    exact (lem ht).mpr ⟨t, ht, (D t ht).1, rfl⟩
  · rw [r.1] at ha hb hd
    obtain ⟨t, ht, rfl⟩ := perm_at h hb
    obtain ⟨s, hs, rfl⟩ := perm_at h hd
    obtain ⟨u, hu, u1, rfl⟩ := (lem ht).mp h3
    obtain ⟨v, hv, v1, v2⟩ := (lem hs).mp h4
    have e := perm_inj h hv ht v2
    subst e
    exact (lem hs).mpr ⟨u, hu, (D s hs).2.2 v u v1 u1, rfl⟩
  · rw [r.1] at ha hb
    obtain ⟨t, ht, rfl⟩ := perm_at h hb
    obtain ⟨s, hs, rfl⟩ := perm_at h ha
    obtain ⟨u, hu, u1, u2⟩ := (lem ht).mp h3
    obtain ⟨v, hv, v1, v2⟩ := (lem hs).mp h4
    have e1 := perm_inj h hu hs u2
    have e2 := perm_inj h hv ht v2
    subst e1
    subst e2
    have := (D v hv).2.1 u u1
    have := (D u hu).2.1 v v1
    have e : u = v := by omega
    rw [e]
theorem perm_ins {xs : List Nat} {n i : Nat} (h : xs.Perm (List.range n)) : (xs.take i ++ [n] ++ xs.drop i).Perm (List.range (n + 1)) := by
  rw [List.range_succ]
  have e1 : (xs.take i ++ [n] ++ xs.drop i).Perm (n :: (xs.take i ++ xs.drop i)) := by
    rw [List.append_assoc]
    exact List.perm_middle
  rw [List.take_append_drop] at e1
  exact e1.trans ((List.Perm.cons n h).trans (List.perm_append_singleton n (List.range n)).symm)
section
variable {K : PySem.W.Frag} {σ : L2.St} {H : Hp} {ta tb te : TE} {D : Ends} {tz : TS}
theorem rep_one {α : Type} (x : α) : ∀ k : Nat, (List.replicate k [x]).flatten = List.replicate k x
  | 0 => rfl
  | k + 1 => by rw [List.replicate_succ, List.flatten_cons, rep_one x k]; rfl
/-- [x] * n -/
theorem el_rep {v : V} {k : Nat} (ha : EvL ta σ H [v]) (hb : ∀ H1, Evl.Ex H H1 → Ev tb σ H1 (nv k)) (hk : k ≤ 100000) : EvL (tOp rRep ta tb) σ H (List.replicate k v) := by
  intro H1 x1 Q q
  refine ha H1 x1 _ fun p H2 hp x2 h2 => ?_
  refine hb H2 (x1.trans x2) H2 (Evl.Ex.refl _) _ fun H3 x3 => ?_
  have sl : sizeLine = 16777216 := sizeLine_eq
  refine ⟨p, (k : Int), [v], rfl, rfl, x3 _ _ h2, by omega, by omega, ?_, fun l hl => ?_⟩
  · rw [List.length_singleton, Int.toNat_natCast]
    omega
  · rw [Int.toNat_natCast, rep_one]
    exact q l _ (fresh_back (x2.trans x3) hl) ((x2.trans x3).trans (Ex.new hl)) upd_same
/-- xs.insert(i, v) -/
theorem q_ins {l : Addr} {xs : List V} {i : Int} {v : V} (hl : H l = some (.lst xs)) (ha : Ev ta σ H (.ref l)) (hi : Ev tb σ H (.int i)) (h : Ev te σ H v) (h0 : 0 ≤ i) (h1 : i < 1000) (hz : xs.length < 100000) (k : ∀ H1, Evl.Ex H H1 → tz D σ (upd H1 l (.lst (xs.take i.toNat ++ [v] ++ xs.drop i.toNat)))) :
    tSeq (tDrop (tBM K "list" (fun x vs H Q => ∃ (l : Addr) (xs : List V) (i : Int) (y : V), x = .ref l ∧ vs = [.int i, y] ∧ H l = some (.lst xs) ∧ xs.length < sizeLine ∧ 0 ≤ i ∧ i < 2 ^ 63 ∧ Q .non (upd H l (.lst (xs.take i.toNat ++ [y] ++ xs.drop i.toNat)))) ta (tCons tb (tCons te tNil)))) tz D σ H := by
  refine ha H (Evl.Ex.refl H) _ fun H1 x1 => ⟨.inl ⟨rfl, _, .inl (.inl (x1 _ _ hl))⟩, ?_⟩
  refine hi H1 x1 _ fun H2 x2 => h H2 (x1.trans x2) _ fun H3 x3 => ?_
  exact ⟨l, xs, i, v, rfl, rfl, (x1.trans (x2.trans x3)) _ _ hl, sz_lt hz, h0, by omega, k H3 (x1.trans (x2.trans x3))⟩
end
def spRenum (K : PySem.W.Frag) : Sp := fun vs H Q _ => ∃ (p1 p2 : Addr) (ms nu : List Nat), vs = [.ref p1, .ref p2] ∧ SqL K H p1 (ms.map nv) ∧ SqL K H p2 (nu.map nv) ∧ ms.length ≤ 7 ∧ nu.Perm (List.range ms.length) ∧ ∀ o, Renum ms nu o → RetT (o.map nv) H Q
def spOrder : Sp := fun vs H Q _ => ∃ (c : Int) (n : Nat), vs = [.int c, nv n] ∧ 1 ≤ n ∧ n ≤ 5 ∧ ∀ o, IsOrd o → o.length = n → RetT (o.map nv) H Q
abbrev s_law_renumbered : Stmt := topS 19
theorem sc_law_renumbered : FnScope ["_law_masks", "_law_numbers", "_law_found", "_law_thing", "_law_mask", "_law_other"] ["_law_masks", "_law_numbers"] (defScope s_law_renumbered) := ⟨rfl, rfl, rfl, by decide +kernel, rfl, by decide +kernel, by decide +kernel⟩
abbrev s_law_order : Stmt := topS 18
theorem sc_law_order : FnScope ["_law_cell_here", "_law_many", "_law_rest", "_law_seldom", "_law_numbers", "_law_masks", "_law_thing", "_law_mask", "_law_other"] ["_law_cell_here", "_law_many"] (defScope s_law_order) := ⟨rfl, rfl, rfl, by decide +kernel, rfl, by decide +kernel, by decide +kernel⟩
section
variable {P : Program} {w : World} {K : PySem.W.Frag} {mg : Str → Option Value} {base : Heap} {c : Addr}
theorem ok_law_renumbered (B : Bt mg) (D : Df K mg "_law_renumbered" s_law_renumbered c) : Has P w K mg base "_law_renumbered" 1 ["_law_masks", "_law_numbers"] (spRenum K) := by
  refine D.has sc_law_renumbered (fun vs H Q E h => ?_) (fun _ _ _ _ _ _ us hl => match us, hl with | [_, _], _ => rfl) (fun f A outer s H vs Q E hr h => ?_)
  · obtain ⟨p1, p2, ms, nu, rfl, _⟩ := h
    rfl
  · obtain ⟨p1, p2, ms, nu, rfl, h1, h2, hm, hp, q⟩ := h
    have hnl : nu.length = ms.length := by
      have := hp.length_eq
      rw [List.length_range] at this
      exact this
    refine ⟨_, (pss_cons (ps_set (i := 2) sc_law_renumbered.nd rfl (.inl rfl) (pe_op op_rep (pe_lst (pa_cons pe_int pa_nil)) (pe_callB (lenK K rfl) (by rfl) B.len_ boot_len (pa_cons (pv 0) pa_nil))))
  (pss_cons (ps_for PassesOwn.never rfl (pi_range1 (by rfl) B.range_ (pa_cons (pe_callB (lenK K rfl) (by rfl) B.len_ boot_len (pa_cons (pv 0) pa_nil)) pa_nil)) (pg_name (i := 3) sc_law_renumbered.nd rfl (.inl rfl))
    (pss_cons (ps_set (i := 4) sc_law_renumbered.nd rfl (.inl rfl) pe_int)
    (pss_cons (ps_for PassesOwn.never rfl (pi_range1 (by rfl) B.range_ (pa_cons (pe_callB (lenK K rfl) (by rfl) B.len_ boot_len (pa_cons (pv 0) pa_nil)) pa_nil)) (pg_name (i := 5) sc_law_renumbered.nd rfl (.inl rfl))
      (pss_one (ps_if (pt_cmpR op_eq (pe_op op_and (pe_op op_shr (pe_ix (ixL K rfl) (pv 0) (pv 3) (fun _ _ => rfl)) (pv 5)) pe_int) pe_int (nomark _))
        (pss_one (ps_set (i := 4) sc_law_renumbered.nd rfl (.inl rfl) (pe_op op_or (pv 4) (pe_op op_shl pe_int (pe_ix (ixL K rfl) (pv 1) (pv 5) (fun _ _ => rfl))))))
        pss_nil)))
    (pss_one (ps_asg (pv 4) (pg_sub (pv 2) (pe_ix (ixL K rfl) (pv 1) (pv 3) (fun _ _ => rfl)) set_list))))))
  (pss_one (ps_ret (tupleK K rfl (by rfl) B.tuple_ (pv 2))))))
      , ?_⟩
    refine q_asgL (el_rep (v := .int 0) (k := ms.length) (el_lst (ea_cons ev_c ea_nil) (by decide)) (fun H1 x1 => ev_is (ev_len (ev_var rfl) (ex_l x1 h1)) (by rw [List.length_map])) (by omega)) fun pf H1 hpf x1 hf => ?_
    refine q_forR1 (n := (ms.length : Int)) (ea_cons (ev_is (ev_len (ev_var rfl) (ex_l x1 h1)) (by rw [List.length_map])) ea_nil) (by omega)
      (fun i σ H' => ∃ (a b d : Option V) (o : List Nat), σ = [some (.ref p1), some (.ref p2), some (.ref pf), a, b, d] ∧ Evl.Ex H H' ∧ H' pf = some (.lst (o.map nv)) ∧ o.length = ms.length ∧ ∀ t, t < i → ∀ k, (o.getD (nu.getD t 0) 0).testBit k = true ↔ ∃ u, u < ms.length ∧ (ms.getD t 0).testBit u = true ∧ nu.getD u 0 = k)
      (fun H2 x2 => ⟨none, none, none, List.replicate ms.length 0, rfl, x1.trans x2, by rw [List.map_replicate]; exact x2 _ _ hf, by rw [List.length_replicate], fun t ht => by omega⟩) (fun i σ H' hi hP => ?_) (fun σ H' hP => ?_)
    · obtain ⟨a, b, d, o, rfl, x2, ho, ol, inv⟩ := hP
      have hi' : i < ms.length := by omega
      refine q_asg ev_c fun H3 x3 => ?_
      refine q_forR1 (n := (ms.length : Int)) (ea_cons (ev_is (ev_len (ev_var rfl) (ex_l (x2.trans x3) h1)) (by rw [List.length_map])) ea_nil) (by omega)
        (fun j σ H' => ∃ (d : Option V) (m : Nat), σ = [some (.ref p1), some (.ref p2), some (.ref pf), some (nv i), some (nv m), d] ∧ Evl.Ex H H' ∧ H' pf = some (.lst (o.map nv)) ∧ ∀ k, m.testBit k = true ↔ ∃ u, u < j ∧ (ms.getD i 0).testBit u = true ∧ nu.getD u 0 = k)
        (fun H4 x4 => ⟨_, 0, rfl, x2.trans (x3.trans x4), x4 _ _ (x3 _ _ ho), fun k => ⟨fun z => absurd z (by rw [Nat.zero_testBit]; decide), fun ⟨u, hu, _⟩ => absurd hu (by omega)⟩⟩) (fun j σ H' hj hP => ?_) (fun σ H' hP => ?_)
      · obtain ⟨d, m, rfl, x4, ho4, im⟩ := hP
        have hj' : j < ms.length := by omega
        refine s_when (et_bit (ev_ixL (ev_var rfl) (ev_var rfl) (ex_l x4 h1) (getN hi')) (ev_var rfl)) (fun hb H5 x5 => ?_) (fun hb H5 x5 => ?_)
        · have hnu := perm_lt hp hj'
          refine s_asg (ev_op (ev_var rfl) (ev_op ev_c (ev_ixL (ev_var rfl) (ev_var rfl) (ex_l (x4.trans x5) h2) (getN (by omega))) (rv_I ⟨Int.natCast_nonneg _, by omega, by decide⟩)) rv_I0) fun H6 x6 => ⟨some (nv j), m ||| 1 <<< (nu.getD j 0), ?_, x4.trans (x5.trans x6), x6 _ _ (x5 _ _ ho4), fun k => ?_⟩
          · rw [shl_nat, or_nat]
            rfl
          · rw [Nat.testBit_or, Bool.or_eq_true, im k, Nat.one_shiftLeft, Nat.testBit_two_pow, decide_eq_true_iff]
            constructor
            · rintro (⟨u, hu, h3, h4⟩ | e)
              · exact ⟨u, by omega, h3, h4⟩
              · exact ⟨j, by omega, hb, e⟩
            · rintro ⟨u, hu, h3, h4⟩
              by_cases e : u = j
              · subst e
                exact .inr h4
              · exact .inl ⟨u, by omega, h3, h4⟩
        · refine ⟨_, m, rfl, x4.trans x5, x5 _ _ ho4, fun k => ?_⟩
          rw [im k]
          constructor
          · rintro ⟨u, hu, h3, h4⟩
            exact ⟨u, by omega, h3, h4⟩
          · rintro ⟨u, hu, h3, h4⟩
            by_cases e : u = j
            · subst e
              rw [hb] at h3
              cases h3
            · exact ⟨u, by omega, h3, h4⟩
      · obtain ⟨d, m, rfl, x4, ho4, im⟩ := hP
        have hnu := perm_lt hp hi'
        refine s_setL (j := nu.getD i 0) ho4 (ev_var rfl) (ev_var rfl) (ev_ixL (ev_var rfl) (ev_var rfl) (ex_l x4 h2) (getN (by omega))) (by rw [List.length_map]; omega) fun H5 x5 => ⟨_, _, _, o.set (nu.getD i 0) m, rfl, (x4.trans x5).mut hpf, ?_, by rw [List.length_set]; exact ol, fun t ht k => ?_⟩
        · rw [upd_same, List.map_set]
        · by_cases e : t = i
          · subst e
            rw [List.getD_eq_getElem?_getD, List.getElem?_set_self (by omega)]
            rw [Int.toNat_natCast] at im
            exact im k
          · have ne : nu.getD i 0 ≠ nu.getD t 0 := fun z => e (perm_inj hp (by omega) (by omega) z.symm)
            rw [List.getD_eq_getElem?_getD, List.getElem?_set_ne ne, ← List.getD_eq_getElem?_getD]
            exact inv t (by omega) k
    · obtain ⟨a, b, d, o, rfl, x2, ho, ol, inv⟩ := hP
      rw [Int.toNat_natCast] at inv
      exact s_retU (eu_tupleL (ev_var rfl) (.inl (.inl ho))) fun p4 H4 hp4 x4 h4 => q o ⟨ol, inv⟩ p4 H4 (fresh_back x2 hp4) (x2.trans x4) h4
theorem ok_law_order (B : Bt mg) (h_law_turn : Has P w K mg base "_law_turn" 1 ["_law_cell_here", "_law_k"] spTurn) (h_law_renumbered : Has P w K mg base "_law_renumbered" 1 ["_law_masks", "_law_numbers"] (spRenum K))
    (D : Df K mg "_law_order" s_law_order c) : Has P w K mg base "_law_order" 2 ["_law_cell_here", "_law_many"] spOrder := by
  refine D.has sc_law_order (fun vs H Q E h => ?_) (fun _ _ _ _ _ _ us hl => match us, hl with | [_, _], _ => rfl) (fun f A outer s H vs Q E hr h => ?_)
  · obtain ⟨a, n, rfl, _⟩ := h
    rfl
  · obtain ⟨a, n, rfl, h1, h2, q⟩ := h
    refine ⟨_, (pss_cons (ps_set (i := 2) sc_law_order.nd rfl (.inl rfl) (pe_has h_law_turn (hr.mono (by decide)) (by rfl) (pa_cons (pv 0) (pa_cons pe_int pa_nil))))
  (pss_cons (ps_set (i := 3) sc_law_order.nd rfl (.inl rfl) (pe_op op_add pe_int (pe_op op_mod (pv 2) pe_int)))
  (pss_cons (ps_set (i := 4) sc_law_order.nd rfl (.inl rfl) (pe_lst pa_nil))
  (pss_cons (ps_set (i := 5) sc_law_order.nd rfl (.inl rfl) (pe_lst pa_nil))
  (pss_cons (ps_for PassesOwn.never rfl (pi_range1 (by rfl) B.range_ (pa_cons (pv 1) pa_nil)) (pg_name (i := 6) sc_law_order.nd rfl (.inl rfl))
    (pss_cons (ps_set (i := 2) sc_law_order.nd rfl (.inl rfl) (pe_has h_law_turn (hr.mono (by decide)) (by rfl) (pa_cons (pv 2) (pa_cons (pe_op op_add (pv 6) pe_int) pa_nil))))
    (pss_cons (ps_expr (pe_bm PySem.F.plainAttrs_list PySem.F.slot_list_insert PySem.F.type_list_insert mt_insert (pv 4) (pa_cons (pe_op op_mod (pe_op op_fdiv (pv 2) pe_int) (pe_op op_add (pv 6) pe_int)) (pa_cons (pv 6) pa_nil))))
    (pss_cons (ps_set (i := 7) sc_law_order.nd rfl (.inl rfl) (pe_op op_shl pe_int (pv 6)))
    (pss_cons (ps_for PassesOwn.never rfl (pi_range1 (by rfl) B.range_ (pa_cons (pv 6) pa_nil)) (pg_name (i := 8) sc_law_order.nd rfl (.inl rfl))
      (pss_one (ps_if (pt_cmpR op_eq (pe_op op_mod (pe_op op_fdiv (pe_has h_law_turn (hr.mono (by decide)) (by rfl) (pa_cons (pv 2) (pa_cons (pe_op op_add (pv 8) pe_int) pa_nil))) pe_int) (pv 3)) pe_int (nomark _))
        (pss_one (ps_set (i := 7) sc_law_order.nd rfl (.inl rfl) (pe_op op_or (pv 7) (pe_ix (ixL K rfl) (pv 5) (pv 8) (fun _ _ => rfl)))))
        pss_nil)))
    (pss_one (ps_expr (pe_bm PySem.F.plainAttrs_list PySem.F.slot_list_append PySem.F.type_list_append mt_append (pv 5) (pa_cons (pv 7) pa_nil)))))))))
  (pss_one (ps_ret (pe_has h_law_renumbered (hr.mono (by decide)) (by rfl) (pa_cons (pv 5) (pa_cons (pv 4) pa_nil))))))))))
      , ?_⟩
    refine ⟨_, rfl, a, 1, rfl, by omega, by omega, fun r r0 r1 H1 x1 => ?_⟩
    refine q_asg (ev_op ev_c (ev_op (ev_var rfl) ev_c (rv_I (by show (0 : Int) < 3; decide))) rv_I0) fun H2 x2 => ?_
    have hsd : 0 < 2 + r % 3 := by
      have := mod_lt r (b := 3) (by decide)
      omega
    generalize 2 + r % 3 = sd at hsd ⊢
    refine q_asgL (el_lst ea_nil (by decide)) fun pn H3 hpn x3 hn => ?_
    refine q_asgL (el_lst ea_nil (by decide)) fun pm H4 hpm x4 hm => ?_
    have fn : H pn = none := fresh_back (x1.trans x2) hpn
    have fm : H pm = none := fresh_back (x1.trans (x2.trans x3)) hpm
    have nmn : pn ≠ pm := fun z => by
      rw [← z, hn] at hpm
      cases hpm
    refine q_forR1 (n := (n : Int)) (ea_cons (ev_var rfl) ea_nil) (by omega)
      (fun i σ H' => ∃ (r : Int) (x y z : Option V) (nu ms : List Nat), σ = [some (.int a), some (nv n), some (.int r), some (.int sd), some (.ref pn), some (.ref pm), x, y, z] ∧ 0 ≤ r ∧ r < 2147483629 ∧ Evl.Ex H H' ∧ H' pn = some (.lst (nu.map nv)) ∧ H' pm = some (.lst (ms.map nv)) ∧ ms.length = i ∧ nu.Perm (List.range i) ∧ Down ms)
      (fun H5 x5 => ⟨r, none, none, none, [], [], rfl, r0, r1, x1.trans (x2.trans (x3.trans (x4.trans x5))), x5 _ _ (x4 _ _ hn), x5 _ _ hm, rfl, List.Perm.refl _, fun b hb => absurd hb (Nat.not_lt_zero _)⟩) (fun i σ H' hi hP => ?_) (fun σ H' hP => ?_)
    · obtain ⟨r, x, y, z, nu, ms, rfl, r0, r1, x5, hn5, hm5, ml, np, dn⟩ := hP
      have hi' : i < n := by omega
      have nl : nu.length = i := by
        have := np.length_eq
        rw [List.length_range] at this
        exact this
      refine ⟨.int r, rfl, .int i, rfl, _, _, rfl, rfl, r, (i : Int) + 2, rfl, by omega, by omega, fun r2 s0 s1 H6 x6 => ?_⟩
      have m2 := mod_lt (r2 / 5) (b := (i : Int) + 1) (by omega)
      refine q_ins (i := r2 / 5 % ((i : Int) + 1)) (v := nv i) (x6 _ _ hn5) (ev_var rfl) (ev_op (ev_op (ev_var rfl) ev_c (rv_I ⟨by decide, by decide⟩)) (ev_op (ev_var rfl) ev_c rv_I0) (rv_I (by show (0 : Int) < (i : Int) + 1; omega))) (ev_var rfl) m2.1 (by omega) (by rw [List.length_map]; omega) fun H7 x7 => ?_
      have x8 : Evl.Ex H (upd H7 pn (.lst ((nu.map nv).take (r2 / 5 % ((i : Int) + 1)).toNat ++ [nv i] ++ (nu.map nv).drop (r2 / 5 % ((i : Int) + 1)).toNat))) := (x5.trans (x6.trans x7)).mut fn
      have hm7 : upd H7 pn (.lst ((nu.map nv).take (r2 / 5 % ((i : Int) + 1)).toNat ++ [nv i] ++ (nu.map nv).drop (r2 / 5 % ((i : Int) + 1)).toNat)) pm = some (.lst (ms.map nv)) := (upd_ne nmn.symm).trans (x7 _ _ (x6 _ _ hm5))
      have hn7 : upd H7 pn (.lst ((nu.map nv).take (r2 / 5 % ((i : Int) + 1)).toNat ++ [nv i] ++ (nu.map nv).drop (r2 / 5 % ((i : Int) + 1)).toNat)) pn = some (.lst ((nu.take (r2 / 5 % ((i : Int) + 1)).toNat ++ [i] ++ nu.drop (r2 / 5 % ((i : Int) + 1)).toNat).map nv)) := by
        rw [upd_same, List.map_append, List.map_append, List.map_take, List.map_drop]
        rfl
      have np7 := perm_ins (i := (r2 / 5 % ((i : Int) + 1)).toNat) np
      generalize upd H7 pn (.lst ((nu.map nv).take (r2 / 5 % ((i : Int) + 1)).toNat ++ [nv i] ++ (nu.map nv).drop (r2 / 5 % ((i : Int) + 1)).toNat)) = H8 at x8 hm7 hn7 ⊢
      generalize nu.take (r2 / 5 % ((i : Int) + 1)).toNat ++ [i] ++ nu.drop (r2 / 5 % ((i : Int) + 1)).toNat = nu7 at hn7 np7
      refine q_asg (ev_op ev_c (ev_var rfl) (rv_I ⟨Int.natCast_nonneg i, by omega, by decide⟩)) fun H9 x9 => ?_
      refine q_forR1 (n := (i : Int)) (ea_cons (ev_var rfl) ea_nil) (by omega)
        (fun j σ H' => ∃ (z : Option V) (m : Nat), σ = [some (.int a), some (nv n), some (.int r2), some (.int sd), some (.ref pn), some (.ref pm), some (nv i), some (nv m), z] ∧ Evl.Ex H H' ∧ H' pn = some (.lst (nu7.map nv)) ∧ H' pm = some (.lst (ms.map nv)) ∧ Part ms i m)
        (fun H10 x10 => ⟨z, 1 <<< i, by rw [shl_nat]; rfl, x8.trans (x9.trans x10), x10 _ _ (x9 _ _ hn7), x10 _ _ (x9 _ _ hm7), Part.one ms i⟩) (fun j σ H' hj hP => ?_) (fun σ H' hP => ?_)
      · obtain ⟨z, m, rfl, x10, hn10, hm10, pt⟩ := hP
        have hj' : j < i := by omega
        refine ⟨.int r2, rfl, .int j, rfl, _, _, rfl, rfl, r2, (j : Int) + 7, rfl, by omega, by omega, fun r3 t0 t1 H11 x11 => ?_⟩
        refine ⟨_, _, rfl, rfl, ⟨by decide, by decide⟩, .int sd, rfl, _, _, rfl, rfl, hsd, rfl, _, rfl, ?_⟩
        refine ite2 (fun _ => ?_) (fun _ => ?_)
        · refine s_asg (ev_op (ev_var rfl) (ev_ixL (ev_var rfl) (ev_var rfl) (.inl (.inl (x11 _ _ hm10))) (getN (by omega))) rv_I0) fun H12 x12 => ⟨some (nv j), m ||| ms.getD j 0, ?_, x10.trans (x11.trans x12), x12 _ _ (x11 _ _ hn10), x12 _ _ (x11 _ _ hm10), pt.more dn hj' ml.symm⟩
          rw [or_nat]
          rfl
        · exact ⟨some (nv j), m, rfl, x10.trans x11, x11 _ _ hn10, x11 _ _ hm10, pt⟩
      · obtain ⟨z, m, rfl, x10, hn10, hm10, pt⟩ := hP
        refine s_app hm10 (ev_var rfl) (ev_var rfl) (by rw [List.length_map]; omega) fun H11 x11 => ⟨r2, _, _, _, nu7, ms ++ [m], rfl, s0, s1, (x10.trans x11).mut fm, (upd_ne nmn).trans (x11 _ _ hn10), ?_, by rw [List.length_append, List.length_singleton, ml], np7, dn.snoc (by rw [ml]; exact pt)⟩
        rw [upd_same, List.map_append]
        rfl
    · obtain ⟨r, x, y, z, nu, ms, rfl, r0, r1, x5, hn5, hm5, ml, np, dn⟩ := hP
      rw [Int.toNat_natCast] at ml np
      refine ⟨.ref pm, rfl, .ref pn, rfl, pm, pn, ms, nu, rfl, .inl (.inl hm5), .inl (.inl hn5), by omega, by rw [ml]; exact np, fun o ho p4 H4 hp4 x4 h4 => ?_⟩
      exact q o (ho.ord dn (by rw [ml]; exact np) (by omega) (by omega)) (ho.1.trans ml) p4 H4 (fresh_back x5 hp4) (x5.trans x4) h4
end
end Sw
set_option Elab.async false
set_option linter.all false
set_option maxRecDepth 100000
set_option maxHeartbeats 4000000
/-! the law's own signs: _law_signs -/
namespace Sw
open PySem PySem.Spec PyProof.Rows L2 LamX NdefX SwK Evl
/-! ### sums of lists -/
theorem sum_range (f : Nat → Int) (p : Nat → Bool) : ∀ n : Nat, (((List.range n).filter p).map f).sum = S n fun c => if p c = true then f c else 0
  | 0 => rfl
  | n + 1 => by
    rw [List.range_succ, List.filter_append, List.map_append, List.sum_append, sum_range f p n]
    show _ = S n (fun c => if p c = true then f c else 0) + (if p n = true then f n else 0)
    congr 1
    by_cases h : p n = true
    · rw [if_pos h, List.filter_cons_of_pos h]
      simp
    · rw [if_neg h, List.filter_cons_of_neg h]
      simp
theorem len_range (p : Nat → Bool) : ∀ n : Nat, ((((List.range n).filter p).length : Nat) : Int) = S n fun c => b1 (p c)
  | 0 => rfl
  | n + 1 => by
    rw [List.range_succ, List.filter_append, List.length_append]
    show _ = S n (fun c => b1 (p c)) + b1 (p n)
    rw [← len_range p n, Int.natCast_add]
    congr 1
    by_cases h : p n = true
    · rw [List.filter_cons_of_pos h, h]
      rfl
    · rw [List.filter_cons_of_neg h]
      cases q : p n with
      | true => exact absurd q h
      | false => rfl
/-! ### one row -/
structure RowI (n : Nat) (le : Nat → Nat → Bool) (a : Nat) (P : Nat → Prop) (r : Nat → Int) : Prop where
  done : ∀ b, b < n → P b → le a b = true → dn n le r b = dl a b
  off : ∀ b, b < n → le a b = false → r b = 0
  yet : ∀ b, b < n → ¬ P b → r b = 0
theorem RowI.mu {n : Nat} {le : Nat → Nat → Bool} {a : Nat} {P : Nat → Prop} {r : Nat → Int} (O : Po n le) (ha : a < n) (R : RowI n le a P r) (h : ∀ b, b < n → P b) : ∀ b, b < n → dn n le r b = dl a b := fun b hb => by
  cases e : le a b with
  | true => exact R.done b hb (h b hb) e
  | false =>
    have e1 : dn n le r b = 0 := S_zero fun c hc => by
      by_cases q : le c b = true
      · rw [if_pos q]
        refine R.off c hc ?_
        cases z : le a c with
        | false => rfl
        | true =>
          have := O.trans a c b ha hc hb z q
          rw [e] at this
          cases this
      · exact if_neg q
    rw [e1]
    unfold dl
    rw [if_neg fun z => ?_]
    rw [← z, O.refl a ha] at e
    cases e
/-- the row with one number stored -/
def put (r : Nat → Int) (b : Nat) (v : Int) : Nat → Int := fun c => if c = b then v else r c
def setM (M : Nat → Nat → Int) (a : Nat) (r : Nat → Int) : Nat → Nat → Int := fun i => if i = a then r else M i
theorem setM_same (M : Nat → Nat → Int) (a : Nat) (r : Nat → Int) : setM M a r a = r := if_pos rfl
theorem setM_ne (M : Nat → Nat → Int) {a i : Nat} (r : Nat → Int) (h : i ≠ a) : setM M a r i = M i := if_neg h
theorem RowI.step {n : Nat} {le : Nat → Nat → Bool} {a b : Nat} {P P' : Nat → Prop} {r : Nat → Int} (O : Po n le) (hb : b < n) (hl : le a b = true) (R : RowI n le a P r) (up : ∀ p, p < n → P p → le b p = true → False) (hP : ∀ c, c < n → (P' c ↔ P c ∨ c = b)) :
    RowI n le a P' (put r b (dl a b - S n fun c => if (c != b && le c b) = true then r c else 0)) := by
  refine ⟨fun p hp pp lp => ?_, fun p hp lp => ?_, fun p hp np => ?_⟩
  · by_cases e : p = b
    · subst e
      unfold dn
      rw [S_split hp]
      rw [if_pos (O.refl p hp)]
      have e1 : S n (fun i => if i = p then 0 else if le i p = true then put r p (dl a p - S n fun c => if (c != p && le c p) = true then r c else 0) i else 0) = S n fun c => if (c != p && le c p) = true then r c else 0 := S_congr fun i _ => by
        by_cases q : i = p
        · rw [if_pos q, q]
          simp
        · have q' : (i != p) = true := bne_iff_ne.mpr q
          rw [if_neg q, q', Bool.true_and]
          unfold put
          rw [if_neg q]
      rw [e1]
      unfold put
      rw [if_pos rfl]
      omega
    · have pp' : P p := ((hP p hp).mp pp).resolve_right e
      rw [← R.done p hp pp' lp]
      refine S_congr fun i _ => ?_
      by_cases q : i = b
      · rw [q]
        have z : ¬ le b p = true := fun z => up p hp pp' z
        rw [if_neg z, if_neg z]
      · unfold put
        rw [if_neg q]
  · unfold put
    rw [if_neg fun z => ?_]
    · exact R.off p hp lp
    · rw [z, hl] at lp
      cases lp
  · unfold put
    rw [if_neg fun z => np ((hP p hp).mpr (.inr z))]
    exact R.yet p hp fun z => np ((hP p hp).mpr (.inl z))
theorem RowI.skip {n : Nat} {le : Nat → Nat → Bool} {a b : Nat} {P P' : Nat → Prop} {r : Nat → Int} (hl : le a b = false) (R : RowI n le a P r) (hP : ∀ c, c < n → (P' c ↔ P c ∨ c = b)) : RowI n le a P' r :=
  ⟨fun p hp pp lp => ((hP p hp).mp pp).elim (fun z => R.done p hp z lp) fun z => absurd lp (by rw [z, hl]; decide), R.off, fun p hp np => R.yet p hp fun z => np ((hP p hp).mpr (.inl z))⟩
theorem RowI.iff {n : Nat} {le : Nat → Nat → Bool} {a : Nat} {P P' : Nat → Prop} {r : Nat → Int} (R : RowI n le a P r) (hP : ∀ c, c < n → (P' c ↔ P c)) : RowI n le a P' r :=
  ⟨fun p hp pp lp => R.done p hp ((hP p hp).mp pp) lp, R.off, fun p hp np => R.yet p hp fun z => np ((hP p hp).mpr z)⟩
/-! ### rows as lists -/
def rowV (n : Nat) (f : Nat → Int) : List V := (List.range n).map fun j => .int (f j)
theorem rowV_len (n : Nat) (f : Nat → Int) : (rowV n f).length = n := by
  unfold rowV
  rw [List.length_map, List.length_range]
theorem rowV_at {n j : Nat} (f : Nat → Int) (h : j < n) : (rowV n f)[j]? = some (.int (f j)) := by
  unfold rowV
  rw [List.getElem?_map, List.getElem?_range h]
  rfl
theorem rowV_put {n b : Nat} (f : Nat → Int) (v : Int) (h : b < n) : (rowV n f).set b (.int v) = rowV n (put f b v) := by
  apply List.ext_getElem?
  intro i
  by_cases hi : i < n
  · by_cases e : i = b
    · subst e
      rw [List.getElem?_set_self (by rw [rowV_len]; exact h), rowV_at _ h]
      unfold put
      rw [if_pos rfl]
    · rw [List.getElem?_set_ne (fun z => e z.symm), rowV_at _ hi, rowV_at _ hi]
      unfold put
      rw [if_neg e]
  · rw [List.getElem?_eq_none (by rw [List.length_set, rowV_len]; omega), List.getElem?_eq_none (by rw [rowV_len]; omega)]
/-- the rows as stand the lists at as -/
def Mat (n : Nat) (H : Hp) (as : List Addr) (M : Nat → Nat → Int) : Prop := as.length = n ∧ ∀ (i : Nat) (x : Addr), as[i]? = some x → H x = some (.lst (rowV n (M i)))
theorem Mat.ex {n : Nat} {H H' : Hp} {as : List Addr} {M : Nat → Nat → Int} (m : Mat n H as M) (x : Evl.Ex H H') : Mat n H' as M := ⟨m.1, fun i y e => x _ _ (m.2 i y e)⟩
theorem Mat.at {n i : Nat} {H : Hp} {as : List Addr} {M : Nat → Nat → Int} (m : Mat n H as M) (h : i < n) : ∃ x, as[i]? = some x ∧ (as.map V.ref)[i]? = some (.ref x) ∧ H x = some (.lst (rowV n (M i))) := by
  have hi : i < as.length := by
    rw [m.1]
    exact h
  exact ⟨as[i], List.getElem?_eq_getElem hi, by rw [List.getElem?_map, List.getElem?_eq_getElem hi] <;> rfl, m.2 i _ (List.getElem?_eq_getElem hi)⟩
section
variable {K : PySem.W.Frag} {σ : L2.St} {H : Hp} {ta tb te : TE}
/-- [a new list for each turn of a range] -/
theorem lc_lists {ta : TA} {j : Nat} {vs : List Nat} {n : Nat} {Q : VK} (f : Nat → List V) (h : EvA ta σ H [.int (n : Int)]) (hn : n ≤ 1000) (hw : ∀ x, wipe ((wipe σ vs).set j (some x)) vs = wipe σ vs)
    (he : ∀ (i : Nat) H1, Evl.Ex H H1 → i < n → EvL te ((wipe σ vs).set j (some (nv i))) H1 (f i))
    (q : ∀ (p : Addr) (H2 : Hp) (as : List Addr), H p = none → Evl.Ex H H2 → H2 p = some (.lst (as.map V.ref)) → as.length = n → as.Nodup → (∀ x ∈ as, H x = none) → p ∉ as → (∀ (i : Nat) (x : Addr), as[i]? = some x → H2 x = some (.lst (f i))) → Q (.ref p) H2) :
    tLc (iRng1 ta) (gName j) tYes te vs σ H Q := by
  have sl : sizeLine = 16777216 := sizeLine_eq
  refine h H (Evl.Ex.refl H) _ fun H1 x1 => ⟨(n : Int), rfl, by omega, by omega, fun D hD => ?_⟩
  have hD0 : H D = none := fresh_back x1 hD
  rw [Int.toNat_natCast]
  refine lc_range (lo := 0) (n := n) (fun i H' => ∃ as : List Addr, Evl.Ex H H' ∧ H' D = some (.lst (as.map V.ref)) ∧ as.length = i ∧ as.Nodup ∧ (∀ x ∈ as, H x = none) ∧ D ∉ as ∧ ∀ (k : Nat) (x : Addr), as[k]? = some x → H' x = some (.lst (f k)))
    ⟨[], x1.trans (Ex.new hD), upd_same, rfl, .nil, fun x hx => by simp at hx, by simp, fun k x hx => by simp at hx⟩ (fun i H' hi hP => ?_) (fun H' hP => ?_)
  · obtain ⟨as, x2, hd, al, nd, fr, nD, at_⟩ := hP
    refine ⟨hw _, ?_⟩
    show te _ _ _
    rw [Int.zero_add]
    refine he i H' x2 hi H' (Evl.Ex.refl _) _ fun p H3 hp x3 h3 => ⟨as.map V.ref, x3 _ _ hd, by rw [List.length_map]; omega, as ++ [p], (x2.trans x3).mut hD0, by rw [upd_same, List.map_append]; rfl, by rw [List.length_append, al]; rfl, ?_, fun x hx => ?_, fun z => ?_, fun k x hx => ?_⟩
    · refine List.nodup_append.mpr ⟨nd, by simp, fun x hx y hy => ?_⟩
      rw [List.mem_singleton] at hy
      rw [hy]
      intro z
      obtain ⟨k, hk⟩ := List.mem_iff_getElem?.mp hx
      have := at_ k x hk
      rw [z, hp] at this
      cases this
    · rcases List.mem_append.mp hx with hx | hx
      · exact fr x hx
      · rw [List.mem_singleton.mp hx]
        exact fresh_back x2 hp
    · rcases List.mem_append.mp z with z | z
      · exact nD z
      · rw [List.mem_singleton.mp z, hp] at hd
        cases hd
    · have ne : x ≠ D := fun z => by
        rcases List.mem_append.mp (List.mem_of_getElem? hx) with y | y
        · exact nD (z ▸ y)
        · rw [z] at y
          rw [List.mem_singleton.mp y, hp] at hd
          cases hd
      rw [upd_ne ne]
      by_cases hk : k < as.length
      · rw [List.getElem?_append_left hk] at hx
        exact x3 _ _ (at_ k x hx)
      · rw [List.getElem?_append_right (by omega)] at hx
        have e0 : k - as.length = 0 := by
          have h1 := at_lt hx
          rw [List.length_singleton] at h1
          omega
        rw [e0] at hx
        obtain rfl : p = x := Option.some.inj hx
        have ek : k = i := by omega
        rw [ek]
        exact h3
  · obtain ⟨as, x2, hd, al, nd, fr, nD, at_⟩ := hP
    exact q D H' as hD0 x2 hd al nd fr nD at_
end
theorem q_asgT {i : Nat} {te : TE} {tz : TS} {D : Ends} {σ : L2.St} {H : Hp} (h : te σ H fun v H1 => tz D (σ.set i (some v)) H1) : tSeq (tAsg te (gName i)) tz D σ H := h
/-- the law's own signs: what is handed back -/
def spLawSigns (K : PySem.W.Frag) : Sp := fun vs H Q _ => ∃ (p : Addr) (o : List Nat), vs = [.ref p] ∧ SqT K H p (o.map nv) ∧ IsOrd o ∧
  ∀ (p2 : Addr) (H2 : Hp) (as : List Addr) (M : Nat → Nat → Int), H p2 = none → Evl.Ex H H2 → H2 p2 = some (.lst (as.map V.ref)) → Mat o.length H2 as M → IsMu o.length (le o) M → Q (.ref p2) H2
abbrev s_law_signs : Stmt := topS 20
theorem sc_law_signs : FnScope ["_law_order_here", "_law_many", "_law_signs_here", "_law_thing", "_law_sizes", "_law_k", "_law_b", "_law_a", "_law_size", "_law_known", "_law_c"] ["_law_order_here"] (defScope s_law_signs) := ⟨rfl, rfl, rfl, by decide +kernel, rfl, by decide +kernel, by decide +kernel⟩
section
variable {P : Program} {w : World} {K : PySem.W.Frag} {mg : Str → Option Value} {base : Heap} {c : Addr}
theorem rowV_sum {n : Nat} (f : Nat → Int) (p : Nat → Bool) : (((List.range n).filter p).map fun c => V.int (f c)) = (((List.range n).filter p).map f).map V.int := by
  rw [List.map_map]
  rfl
theorem ok_law_signs (B : Bt mg) (D : Df K mg "_law_signs" s_law_signs c) : Has P w K mg base "_law_signs" 1 ["_law_order_here"] (spLawSigns K) := by
  refine D.has sc_law_signs (fun vs H Q E h => ?_) (fun _ _ _ _ _ _ us hl => match us, hl with | [_], _ => rfl) (fun f A outer s H vs Q E hr h => ?_)
  · obtain ⟨p, o, rfl, _⟩ := h
    rfl
  · obtain ⟨p, o, rfl, ho, io, q⟩ := h
    have n7 := io.top
    have O := io.po
    generalize hn : o.length = n at n7 O q
    refine ⟨_, (pss_cons (ps_set (i := 1) sc_law_signs.nd rfl (.inr rfl) (pe_callB (lenK K rfl) (by rfl) B.len_ boot_len (pa_cons (pv 0) pa_nil)))
  (pss_cons (ps_set (i := 2) sc_law_signs.nd rfl (.inr rfl) (pe_lc (own := [("_law_thing", 3)]) (g := gName 3) rfl sc_law_signs.nd (pi_range1 (by rfl) B.range_ (pa_cons (pv 1) pa_nil)) (blkOk_by (by kernel_rfl)) (fun _ _ _ _ _ => pg_name (i := 3) sc_law_signs.nd rfl (.inl rfl)) (fun _ _ _ _ _ => pts_nil) (fun _ _ _ _ _ => (pe_op op_rep (pe_lst (pa_cons pe_int pa_nil)) (pv 1)))))
  (pss_cons (ps_setLc (i := 4) (own := [("_law_b", 6)]) (g := gName 6) rfl sc_law_signs.nd rfl rfl (sw_true rfl rfl rfl (by decide +kernel)) (pi_range1 (by rfl) B.range_ (pa_cons (pv 1) pa_nil)) (blkOk_by (by kernel_rfl)) (fun _ _ _ _ _ => pg_name (i := 6) sc_law_signs.nd rfl (.inr rfl) (.inl rfl)) (fun _ _ _ _ _ => pts_nil) (fun _ _ _ _ _ => (pe_callB (lenK K rfl) (by rfl) B.len_ boot_len (pa_cons (pe_lc (own := [("_law_k", 5)]) (g := gName 5) rfl sc_law_signs.nd (pi_range1 (by rfl) B.range_ (pa_cons (pv 1) pa_nil)) (blkOk_by (by kernel_rfl)) (fun _ _ _ _ _ => pg_name (i := 5) sc_law_signs.nd rfl (.inl rfl)) (fun _ _ _ _ _ => (pts_one (pt_cmpR op_eq (pe_op op_and (pe_op op_shr (pe_ix (ixT K rfl) (pv 0) (pv 6) (fun _ _ => rfl)) (pv 5)) pe_int) pe_int (nomark _)))) (fun _ _ _ _ _ => (pv 5))) pa_nil))))
  (pss_cons (ps_for PassesOwn.never rfl (pi_range1 (by rfl) B.range_ (pa_cons (pv 1) pa_nil)) (pg_name (i := 7) sc_law_signs.nd rfl (.inr rfl))
    (pss_one (ps_for PassesOwn.never rfl (pi_range2 (by rfl) B.range_ (pa_cons pe_int (pa_cons (pe_op op_add (pv 1) pe_int) pa_nil))) (pg_name (i := 8) sc_law_signs.nd rfl (.inl rfl))
      (pss_one (ps_for PassesOwn.never rfl (pi_range1 (by rfl) B.range_ (pa_cons (pv 1) pa_nil)) (pg_name (i := 6) sc_law_signs.nd rfl (.inr rfl))
        (pss_one (ps_if (PW.pt (pw_and (pt_cmpR op_eq (pe_ix (ixL K rfl) (pv 4) (pv 6) (fun _ _ => rfl)) (pv 8) (nomark _)) (pw_and1 (pt_cmpR op_eq (pe_op op_and (pe_op op_shr (pe_ix (ixT K rfl) (pv 0) (pv 6) (fun _ _ => rfl)) (pv 7)) pe_int) pe_int (nomark _)))))
          (pss_cons (ps_setLc (i := 9) (own := [("_law_c", 10)]) (g := gName 10) rfl sc_law_signs.nd rfl rfl (sw_true rfl rfl rfl (by decide +kernel)) (pi_range1 (by rfl) B.range_ (pa_cons (pv 1) pa_nil)) (blkOk_by (by kernel_rfl)) (fun _ _ _ _ _ => pg_name (i := 10) sc_law_signs.nd rfl (.inl rfl)) (fun _ _ _ _ _ => (pts_one (PW.pt (pw_and (pt_cmpR op_ne (pv 10) (pv 6) (nomark _)) (pw_and1 (pt_cmpR op_eq (pe_op op_and (pe_op op_shr (pe_ix (ixT K rfl) (pv 0) (pv 6) (fun _ _ => rfl)) (pv 10)) pe_int) pe_int (nomark _))))))) (fun _ _ _ _ _ => (pe_ix (ixL K rfl) (pe_ix (ixL K rfl) (pv 2) (pv 7) (fun _ _ => rfl)) (pv 10) (fun _ _ => rfl))))
          (pss_one (ps_asg (pe_op op_sub (pe_callTy call_int1 (by rfl) B.int_ boot_int (pa_cons (pe_cmpR op_eq (pv 7) (pv 6) (nomark _)) pa_nil)) (pe_callB (sumK K rfl rfl) (by rfl) B.sum_ bb_sum (pa_cons (pv 9) pa_nil))) (pg_sub (pe_ix (ixL K rfl) (pv 2) (pv 7) (fun _ _ => rfl)) (pv 6) set_list))))
          pss_nil)))))))
  (pss_one (ps_ret (pv 2)))))))
      , ?_⟩
    refine q_asg (v := nv n) (ev_is (ev_lenT (ev_var rfl) ho) (by rw [List.length_map, hn])) fun H1 x1 => ?_
    refine q_asgT (lc_lists (n := n) (fun _ => rowV n fun _ => 0) (ea_cons (ev_var rfl) ea_nil) (by omega) (fun x => rfl) (fun i H2 x2 hi => ?_) (fun ps H2 as hps x2 hs al nd fr nps at_ => ?_))
    · have e : rowV n (fun _ => 0) = List.replicate n (V.int 0) := by
        unfold rowV
        rw [List.map_const', List.length_range]
      rw [e]
      exact el_rep (el_lst (ea_cons ev_c ea_nil) (by decide)) (fun H3 x3 => ev_var rfl) (by omega)
    · have ho2 := ex_t (x1.trans x2) ho
      have hps0 : H ps = none := fresh_back x1 hps
      have fr0 : ∀ x ∈ as, H x = none := fun x hx => fresh_back x1 (fr x hx)
      refine q_asgL (xs := (List.range n).map fun b => V.int (size n (le o) b)) ?_ fun pz H3 hpz x3 hz => ?_
      · have e0 : ((List.range n).map fun b => V.int (size n (le o) b)) = given n (fun _ => true) fun b => V.int (size n (le o) b) := by
          unfold given
          rw [List.filter_eq_self.mpr fun _ _ => rfl]
        rw [e0]
        refine el_lcR1 (n := (n : Int)) (fun _ => true) (fun b => V.int (size n (le o) b)) (ea_cons (ev_var rfl) ea_nil) (by omega) (fun x => rfl) (fun b H3 x3 hb => fun H4 x4 Q k => k H4 (Evl.Ex.refl _)) (fun b H3 x3 hb _ => ?_)
        refine ev_is (ev_lenN (K := K) (el_lcR1 (n := (n : Int)) (fun k => le o k b) nv (ea_cons (ev_var rfl) ea_nil) (by omega) (fun x => rfl) (fun k H4 x4 hk => ?_) (fun k H4 x4 hk _ => ev_var rfl))) ?_
        · exact et_bit (ev_ixT (ev_var rfl) (ev_var rfl) (ex_t (x3.trans x4) ho2) (getN (by omega))) (ev_var rfl)
        · unfold given
          rw [List.length_map]
          congr 1
          exact len_range (fun k => le o k b) n
      have hz0 : H pz = none := fresh_back (x1.trans x2) hpz
      have zps : pz ≠ ps := fun z => by rw [z, hs] at hpz; cases hpz
      have zas : pz ∉ as := fun z => by
        obtain ⟨k, hk⟩ := List.mem_iff_getElem?.mp z
        rw [at_ k pz hk] at hpz
        cases hpz
      -- what stands throughout
      let St : Hp → (Nat → Nat → Int) → Prop := fun H' M => Evl.Ex H H' ∧ H' ps = some (.lst (as.map V.ref)) ∧ Mat n H' as M ∧ H' pz = some (.lst ((List.range n).map fun b => V.int (size n (le o) b)))
      have St_ex : ∀ {H' H'' : Hp} {M : Nat → Nat → Int}, St H' M → Evl.Ex H' H'' → St H'' M := fun ⟨a, b, d, e⟩ x => ⟨a.trans x, x _ _ b, d.ex x, x _ _ e⟩
      have sz_at : ∀ b, b < n → ((List.range n).map fun b => V.int (size n (le o) b))[b]? = some (V.int (size n (le o) b)) := fun b hb => by
        rw [List.getElem?_map, List.getElem?_range hb]
        rfl
      refine q_forR1 (n := (n : Int)) (ea_cons (ev_var rfl) ea_nil) (by omega)
        (fun a σ H' => ∃ (y3 y5 y6 y7 y8 y9 y10 : Option V) (M : Nat → Nat → Int), σ = [some (.ref p), some (nv n), some (.ref ps), y3, some (.ref pz), y5, y6, y7, y8, y9, y10] ∧ St H' M ∧ (∀ i, i < a → ∀ b, b < n → dn n (le o) (M i) b = dl i b) ∧ ∀ i, a ≤ i → M i = fun _ => 0)
        (fun H4 x4 => ⟨none, none, none, none, none, none, none, fun _ _ => 0, rfl, ⟨x1.trans (x2.trans (x3.trans x4)), x4 _ _ (x3 _ _ hs), ⟨al, fun i x hx => x4 _ _ (x3 _ _ (at_ i x hx))⟩, x4 _ _ hz⟩, fun i hi => by omega, fun i _ => rfl⟩)
        (fun a σ H' ha hP => ?_) (fun σ H' hP => ?_)
      · obtain ⟨y3, y5, y6, y7, y8, y9, y10, M, rfl, st, dM, zM⟩ := hP
        have ha' : a < n := by omega
        refine s_forR2 (lo := 1) (n := (n : Int) + 1) (ea_cons ev_c (ea_cons (ev_op (ev_var rfl) ev_c rv_I0) ea_nil)) (by omega)
          (fun i σ H' => ∃ (y3 y5 y6 y8 y9 y10 : Option V) (M : Nat → Nat → Int), σ = [some (.ref p), some (nv n), some (.ref ps), y3, some (.ref pz), y5, y6, some (nv a), y8, y9, y10] ∧ St H' M ∧ (∀ i, i < a → ∀ b, b < n → dn n (le o) (M i) b = dl i b) ∧ (∀ i, a + 1 ≤ i → M i = fun _ => 0) ∧ RowI n (le o) a (fun b => size n (le o) b < 1 + (i : Int)) (M a))
          (fun H4 x4 => ⟨y3, y5, y6, y8, y9, y10, M, rfl, St_ex st x4, dM, fun i hi => zM i (by omega), ?_⟩) (fun i σ H' hi hP => ?_) (fun σ H' hP => ?_)
        · rw [zM a (Nat.le_refl _)]
          refine ⟨fun b hb hp => ?_, fun b hb _ => rfl, fun b hb _ => rfl⟩
          have := size_pos O hb
          omega
        · obtain ⟨y3, y5, y6, y8, y9, y10, M, rfl, st, dM, zM, R⟩ := hP
          refine s_forR1 (n := (n : Int)) (ea_cons (ev_var rfl) ea_nil) (by omega)
            (fun j σ H' => ∃ (y3 y5 y6 y9 y10 : Option V) (M : Nat → Nat → Int), σ = [some (.ref p), some (nv n), some (.ref ps), y3, some (.ref pz), y5, y6, some (nv a), some (.int (1 + (i : Int))), y9, y10] ∧ St H' M ∧ (∀ i, i < a → ∀ b, b < n → dn n (le o) (M i) b = dl i b) ∧ (∀ i, a + 1 ≤ i → M i = fun _ => 0) ∧
              RowI n (le o) a (fun b => size n (le o) b < 1 + (i : Int) ∨ (size n (le o) b = 1 + (i : Int) ∧ b < j)) (M a))
            (fun H4 x4 => ⟨y3, y5, y6, y9, y10, M, rfl, St_ex st x4, dM, zM, R.iff fun b hb => by omega⟩) (fun j σ H' hj hP => ?_) (fun σ H' hP => ?_)
          · obtain ⟨y3, y5, y6, y9, y10, M, rfl, st, dM, zM, R⟩ := hP
            have hj' : j < n := by omega
            have oj : o.getD j 0 = o.getD j 0 := rfl
            refine s_when (b := (decide (V.int (size n (le o) j) = V.int (1 + (i : Int))) && le o a j)) (et_and (et_test (ev_op (ev_ixL (ev_var rfl) (ev_var rfl) (.inl (.inl st.2.2.2)) (sz_at j hj')) (ev_var rfl) (rv_eq rfl))) fun _ => et_bit (ev_ixT (ev_var rfl) (ev_var rfl) (ex_t st.1 ho) (getN (by omega))) (ev_var rfl)) (fun hb H5 x5 => ?_) (fun hb H5 x5 => ?_)
            · rw [Bool.and_eq_true, decide_eq_true_iff] at hb
              have hsz : size n (le o) j = 1 + (i : Int) := V.int.inj hb.1
              have st5 := St_ex st x5
              obtain ⟨xa, xa1, xa2, xa3⟩ := st5.2.2.1.at ha'
              refine q_asgL (xs := (((List.range n).filter fun c => (c != j && le o c j)).map (M a)).map V.int) ?_ fun pk H6 hpk x6 hk => ?_
              · rw [← rowV_sum]
                refine el_lcR1 (n := (n : Int)) (fun c => (c != j && le o c j)) (fun c => V.int (M a c)) (ea_cons (ev_var rfl) ea_nil) (by omega) (fun x => rfl) (fun k H6 x6 hk => ?_) (fun k H6 x6 hk _ => ?_)
                · exact et_and (et_neN (ev_var rfl) (ev_var rfl)) fun _ => et_bit (ev_ixT (ev_var rfl) (ev_var rfl) (ex_t (st5.1.trans x6) ho) (getN (by omega))) (ev_var rfl)
                · exact ev_ixL (ev_ixL (ev_var rfl) (ev_var rfl) (.inl (.inl (x6 _ _ st5.2.1))) xa2) (ev_var rfl) (.inl (.inl (x6 _ _ xa3))) (rowV_at _ (by omega))
              · have st6 := St_ex st5 x6
                have xa6 := x6 _ _ xa3
                have hv : S n (fun c => if (c != j && le o c j) = true then M a c else 0) = (((List.range n).filter fun c => (c != j && le o c j)).map (M a)).sum := (sum_range _ _ _).symm
                refine s_setL (l := xa) (xs := rowV n (M a)) (j := j) (v := .int (dl a j - S n fun c => if (c != j && le o c j) = true then M a c else 0)) xa6 ?_ (ev_ixL (ev_var rfl) (ev_var rfl) (.inl (.inl st6.2.1)) xa2) (ev_var rfl) (by rw [rowV_len]; exact hj') fun H7 x7 => ⟨_, _, _, _, _, setM M a (put (M a) j (dl a j - S n fun c => if (c != j && le o c j) = true then M a c else 0)), rfl, ⟨(st6.1.trans x7).mut (fr0 xa (List.mem_of_getElem? xa1)), ?_, ⟨al, fun k x hx => ?_⟩, ?_⟩, fun i hi => ?_, fun i hi => ?_, ?_⟩
                · refine ev_op (x := .int (dl a j)) (y := .int (S n fun c => if (c != j && le o c j) = true then M a c else 0)) ?_ ?_ rv_I0
                  · refine ev_cb (vs := [.bl (a == j)]) (ea_cons (ev_eqN (ev_var rfl) (ev_var rfl)) ea_nil) fun H7 x7 Q' k => .inr ⟨a == j, rfl, ?_⟩
                    have e : (if (a == j) = true then (1 : Int) else 0) = dl a j := by
                      unfold dl
                      by_cases z : a = j
                      · rw [if_pos z, if_pos (beq_iff_eq.mpr z)]
                      · rw [if_neg z, if_neg fun y => z (beq_iff_eq.mp y)]
                    rw [e]
                    exact k H7 (Evl.Ex.refl _)
                  · rw [hv]
                    refine ev_cb (vs := [.ref pk]) (ea_cons (ev_var rfl) ea_nil) fun H7 x7 Q' k => ⟨pk, _, rfl, .inl (.inl (x7 _ _ hk)), k H7 (Evl.Ex.refl _)⟩
                · exact (upd_ne fun z => nps (by rw [z]; exact List.mem_of_getElem? xa1)).trans (x7 _ _ st6.2.1)
                · by_cases e : k = a
                  · subst e
                    rw [xa1] at hx
                    obtain rfl := Option.some.inj hx
                    rw [setM_same, upd_same, rowV_put _ _ hj']
                  · have ne : x ≠ xa := fun z => by
                      rw [z] at hx
                      have h1 := at_lt hx
                      rw [List.getElem?_eq_getElem h1] at hx
                      have h2 := at_lt xa1
                      rw [List.getElem?_eq_getElem h2] at xa1
                      exact e ((List.getElem_inj nd).mp ((Option.some.inj hx).trans (Option.some.inj xa1).symm))
                    rw [setM_ne _ _ e, upd_ne ne]
                    exact x7 _ _ (st6.2.2.1.2 k x hx)
                · exact (upd_ne fun z => zas (by rw [z]; exact List.mem_of_getElem? xa1)).trans (x7 _ _ st6.2.2.2)
                · rw [setM_ne _ _ (by omega)]
                  exact dM i hi
                · rw [setM_ne _ _ (by omega)]
                  exact zM i hi
                · rw [setM_same]
                  refine R.step O hj' hb.2 (fun p hp pp lp => ?_) fun b hb => ?_
                  · by_cases e : j = p
                    · subst e
                      omega
                    · have := size_lt O hj' hp lp e
                      omega
                  · constructor
                    · rintro (z | ⟨z1, z2⟩)
                      · exact .inl (.inl z)
                      · by_cases e : b = j
                        · exact .inr e
                        · exact .inl (.inr ⟨z1, by omega⟩)
                    · rintro ((z | ⟨z1, z2⟩) | z)
                      · exact .inl z
                      · exact .inr ⟨z1, by omega⟩
                      · subst z
                        exact .inr ⟨hsz, by omega⟩
            · refine ⟨_, _, _, _, _, M, rfl, St_ex st x5, dM, zM, ?_⟩
              rw [Bool.and_eq_false_iff, decide_eq_false_iff_not] at hb
              by_cases hsz : size n (le o) j = 1 + (i : Int)
              · refine R.skip (b := j) (hb.resolve_left fun z => z (by rw [hsz])) fun b hb => ?_
                constructor
                · rintro (z | ⟨z1, z2⟩)
                  · exact .inl (.inl z)
                  · by_cases e : b = j
                    · exact .inr e
                    · exact .inl (.inr ⟨z1, by omega⟩)
                · rintro ((z | ⟨z1, z2⟩) | z)
                  · exact .inl z
                  · exact .inr ⟨z1, by omega⟩
                  · subst z
                    exact .inr ⟨hsz, by omega⟩
              · refine R.iff fun b hb => ?_
                constructor
                · rintro (z | ⟨z1, z2⟩)
                  · exact .inl z
                  · by_cases e : b = j
                    · subst e
                      exact absurd z1 hsz
                    · exact .inr ⟨z1, by omega⟩
                · rintro (z | ⟨z1, z2⟩)
                  · exact .inl z
                  · exact .inr ⟨z1, by omega⟩
          · obtain ⟨y3, y5, y6, y9, y10, M, rfl, st, dM, zM, R⟩ := hP
            refine ⟨_, _, _, _, _, _, M, rfl, st, dM, zM, R.iff fun b hb => ?_⟩
            rw [Int.toNat_natCast]
            omega
        · obtain ⟨y3, y5, y6, y8, y9, y10, M, rfl, st, dM, zM, R⟩ := hP
          refine ⟨_, _, _, _, _, _, _, M, rfl, st, fun i hi => ?_, zM⟩
          by_cases e : i = a
          · subst e
            refine R.mu O ha' fun b hb => ?_
            have := size_top n (le o) b
            omega
          · exact dM i (by omega)
      · obtain ⟨y3, y5, y6, y7, y8, y9, y10, M, rfl, st, dM, zM⟩ := hP
        rw [Int.toNat_natCast] at dM
        exact s_ret (ev_var rfl) fun H5 x5 => q ps H5 as M hps0 (st.1.trans x5) (x5 _ _ st.2.1) (st.2.2.1.ex x5) dM
end
end Sw
set_option Elab.async false
set_option linter.all false
set_option maxRecDepth 100000
set_option maxHeartbeats 4000000
/-! _law_least, _law_greatest, _law_back, _law_ended -/
namespace Sw
open PySem PySem.Spec PyProof.Rows L2 LamX NdefX SwK Evl
/-- a thing, or None -/
def ov : Option Nat → V
  | none => .non
  | some k => nv k
theorem et_yes {σ : L2.St} {H : Hp} : EvT tYes σ H true := fun H1 x1 Q k => k H1 (Evl.Ex.refl _)
theorem given_all (n : Nat) (v : Nat → V) : given n (fun _ => true) v = (List.range n).map v := by
  unfold given
  rw [List.filter_eq_self.mpr fun _ _ => rfl]
theorem all_true {n : Nat} {f : Nat → Bool} : ((List.range n).map f).all id = true ↔ ∀ i, i < n → f i = true := by
  rw [List.all_eq_true]
  constructor
  · exact fun h i hi => h (f i) (List.mem_map.mpr ⟨i, List.mem_range.mpr hi, rfl⟩)
  · intro h x hx
    obtain ⟨i, hi, rfl⟩ := List.mem_map.mp hx
    exact h i (List.mem_range.mp hi)
theorem all_mem {l : List Nat} {p : Nat → Bool} (h : ∀ i, i < l.length → p (l.getD i 0) = true) : ∀ t ∈ l, p t = true := fun t ht => by
  obtain ⟨i, hi⟩ := List.mem_iff_getElem?.mp ht
  have q := h i (at_lt hi)
  rw [List.getD_eq_getElem?_getD, hi] at q
  exact q
theorem get_mem {l : List Nat} {i : Nat} (h : i < l.length) : l.getD i 0 ∈ l := by
  rw [List.getD_eq_getElem?_getD, List.getElem?_eq_getElem h]
  exact List.getElem_mem h
def spLeast (K : PySem.W.Frag) : Sp := fun vs H Q _ => ∃ (p l : Addr) (o ts : List Nat), vs = [.ref p, .ref l] ∧ SqT K H p (o.map nv) ∧ SqL K H l (ts.map nv) ∧ (∀ t ∈ ts, t < o.length) ∧ ts.length ≤ 16 ∧
  ∀ v : Option Nat, (∀ k, v = some k → k ∈ ts ∧ ∀ t ∈ ts, le o k t = true) → RetV (ov v) H Q
def spGreatest (K : PySem.W.Frag) : Sp := fun vs H Q _ => ∃ (p l : Addr) (o ts : List Nat), vs = [.ref p, .ref l] ∧ SqT K H p (o.map nv) ∧ SqL K H l (ts.map nv) ∧ (∀ t ∈ ts, t < o.length) ∧ ts.length ≤ 16 ∧
  ∀ v : Option Nat, (∀ k, v = some k → k ∈ ts ∧ ∀ t ∈ ts, le o t k = true) → RetV (ov v) H Q
/-- the way back, or None where no thing is the greatest -/
def BackOk (o q u : List Nat) (d : List (Option Nat)) : Prop := d.length = q.length ∧ ∀ b g, d[b]? = some (some g) → g < o.length ∧ le q (u.getD g 0) b = true ∧ ∀ a, a < o.length → le q (u.getD a 0) b = true → le o a g = true
def spBack (K : PySem.W.Frag) : Sp := fun vs H Q _ => ∃ (p1 p2 p3 : Addr) (o q u : List Nat), vs = [.ref p1, .ref p2, .ref p3] ∧ SqT K H p1 (o.map nv) ∧ SqT K H p2 (q.map nv) ∧ SqL K H p3 (u.map nv) ∧ o.length ≤ 16 ∧ q.length ≤ 16 ∧ u.length = o.length ∧
  ∀ d, BackOk o q u d → RetL (d.map ov) H Q
/-! ### a bottom, a top -/
def bot (o : List Nat) : List Nat := 1 :: o.map fun m => m * 2 + 1
def topp (o : List Nat) : List Nat := o ++ [2 ^ (o.length + 1) - 1]
theorem le_bot0 (o : List Nat) (a : Nat) : le (bot o) a 0 = decide (a = 0) := by
  show Nat.testBit 1 a = decide (a = 0)
  cases a with
  | zero => rfl
  | succ a => rw [Nat.testBit_succ]; simp
theorem le_botS (o : List Nat) {b : Nat} (hb : b < o.length) (a : Nat) : le (bot o) a (b + 1) = match a with
    | 0 => true
    | a + 1 => le o a b := by
  have e : (bot o).getD (b + 1) 0 = o.getD b 0 * 2 + 1 := by
    show (o.map fun m => m * 2 + 1).getD b 0 = _
    rw [List.getD_eq_getElem?_getD, List.getElem?_map, List.getElem?_eq_getElem hb, List.getD_eq_getElem?_getD, List.getElem?_eq_getElem hb]
    rfl
  unfold le
  rw [e]
  cases a with
  | zero =>
    rw [Nat.testBit_zero]
    exact decide_eq_true (by omega)
  | succ a =>
    rw [Nat.testBit_succ]
    show ((o.getD b 0 * 2 + 1) / 2).testBit a = (o.getD b 0).testBit a
    rw [show (o.getD b 0 * 2 + 1) / 2 = o.getD b 0 by omega]
theorem bot_ord {o : List Nat} (h : IsOrd o) (hl : o.length ≤ 6) : IsOrd (bot o) := by
  have len : (bot o).length = o.length + 1 := by
    show (o.map _).length + 1 = _
    rw [List.length_map]
  refine ⟨by omega, by omega, fun b hb k hk => ?_, ⟨fun a ha => ?_, fun a b c ha hb hc h1 h2 => ?_, fun a b ha hb h1 h2 => ?_⟩⟩
  · rw [len] at hb ⊢
    have hk : le (bot o) k b = true := hk
    cases b with
    | zero =>
      rw [le_bot0] at hk
      have := of_decide_eq_true hk
      omega
    | succ b =>
      rw [le_botS o (by omega)] at hk
      cases k with
      | zero => omega
      | succ k =>
        have := h.low b (by omega) k hk
        omega
  · cases a with
    | zero => rw [le_bot0]; rfl
    | succ a =>
      rw [len] at ha
      rw [le_botS o (by omega)]
      exact h.po.refl a (by omega)
  · rw [len] at ha hb hc
    cases a with
    | zero =>
      cases c with
      | zero => rw [le_bot0]; rfl
      | succ c => rw [le_botS o (by omega)]
    | succ a =>
      cases b with
      | zero =>
        rw [le_bot0] at h1
        have := of_decide_eq_true h1
        omega
      | succ b =>
        cases c with
        | zero =>
          rw [le_bot0] at h2
          have := of_decide_eq_true h2
          omega
        | succ c =>
          rw [le_botS o (by omega)] at h1 h2 ⊢
          exact h.po.trans a b c (by omega) (by omega) (by omega) h1 h2
  · rw [len] at ha hb
    cases a with
    | zero =>
      cases b with
      | zero => rfl
      | succ b =>
        rw [le_bot0] at h2
        have := of_decide_eq_true h2
        omega
    | succ a =>
      cases b with
      | zero =>
        rw [le_bot0] at h1
        have := of_decide_eq_true h1
        omega
      | succ b =>
        rw [le_botS o (by omega)] at h1 h2
        rw [h.po.anti a b (by omega) (by omega) h1 h2]
theorem le_topL {o : List Nat} {b : Nat} (hb : b < o.length) (a : Nat) : le (topp o) a b = le o a b := by
  unfold le topp
  rw [getD_left hb]
theorem le_topT (o : List Nat) (a : Nat) : le (topp o) a o.length = decide (a < o.length + 1) := by
  unfold le topp
  rw [getD_last, Nat.testBit_two_pow_sub_one]
theorem top_ord {o : List Nat} (h : IsOrd o) (hl : o.length ≤ 6) : IsOrd (topp o) := by
  have len : (topp o).length = o.length + 1 := by
    unfold topp
    rw [List.length_append]
    rfl
  have cut : ∀ {b}, b < (topp o).length → b < o.length ∨ b = o.length := fun {b} hb => by omega
  refine ⟨by omega, by omega, fun b hb k hk => ?_, ⟨fun a ha => ?_, fun a b c ha hb hc h1 h2 => ?_, fun a b ha hb h1 h2 => ?_⟩⟩
  · have hk : le (topp o) k b = true := hk
    rcases cut hb with q | q
    · rw [le_topL q] at hk
      have := h.low b q k hk
      omega
    · rw [q, le_topT] at hk
      have := of_decide_eq_true hk
      omega
  · rcases cut ha with q | q
    · rw [le_topL q]
      exact h.po.refl a q
    · rw [q, le_topT]
      exact decide_eq_true (by omega)
  · rcases cut hc with q | q
    · rw [le_topL q] at h2 ⊢
      have hb' := h.low c q b h2
      rw [le_topL hb'] at h1
      have ha' := h.low b hb' a h1
      exact h.po.trans a b c ha' hb' q h1 h2
    · rw [q, le_topT]
      exact decide_eq_true (by omega)
  · rcases cut ha with p | p
    · rcases cut hb with q | q
      · rw [le_topL q] at h1
        rw [le_topL p] at h2
        exact h.po.anti a b p q h1 h2
      · rw [le_topL p, q] at h2
        have := h.low a p _ h2
        omega
    · rcases cut hb with q | q
      · rw [le_topL q, p] at h1
        have := h.low b q _ h1
        omega
      · rw [p, q]
section
variable {K : PySem.W.Frag} {σ : L2.St} {H : Hp} {ta tb te : TE}
/-- a comprehension over a tuple -/
theorem el_lcU {a : Addr} {xs : List V} {tl : TE} {t : TT} {j : Nat} {vs : List Nat} (f : Nat → Bool) (v : Nat → V) (h : Ev tl σ H (.ref a)) (hx : SqT K H a xs) (hz : xs.length ≤ 40000) (hw : ∀ x, wipe ((wipe σ vs).set j (some x)) vs = wipe σ vs)
    (ht : ∀ (i : Nat) (x : V) H1, Evl.Ex H H1 → xs[i]? = some x → EvT t ((wipe σ vs).set j (some x)) H1 (f i)) (he : ∀ (i : Nat) (x : V) H1, Evl.Ex H H1 → xs[i]? = some x → f i = true → Ev te ((wipe σ vs).set j (some x)) H1 (v i)) :
    EvL (tLc (iTup K tl) (gName j) t te vs) σ H (given xs.length f v) := by
  intro H0 e Q q
  refine h H0 e _ fun H1 e1 => ⟨a, rfl, ⟨xs, ex_t (e.trans e1) hx⟩, fun D hD => ?_⟩
  refine lc_tup (xs := xs) (Cw H1 f v D) ⟨hD, Ex.new hD, upd_same⟩ (fun i H' _ p => ex_t ((e.trans e1).trans p.2.1) hx) (fun i x H' hi p => ⟨hw x, ?_⟩) (fun H' p => ?_)
  · refine cw_turn p ?_ (ht i x H1 (e.trans e1) hi) fun hf => he i x H1 (e.trans e1) hi hf
    have := at_lt hi
    omega
  · exact q D H' (fresh_back e1 p.1) (e1.trans p.2.1) p.2.2
/-- list + list, both new -/
theorem el_cat {xs ys : List V} (ha : EvL ta σ H xs) (hb : EvL tb σ H ys) (hz : xs.length + ys.length ≤ 100000) : EvL (tOp rCat ta tb) σ H (xs ++ ys) := by
  intro H1 x1 Q q
  refine ha H1 x1 _ fun p H2 hp x2 h2 => hb H2 (x1.trans x2) _ fun p3 H3 hp3 x3 h3 => ?_
  refine ⟨p, p3, xs, ys, rfl, rfl, x3 _ _ h2, h3, sz_of hz, fun l hl => ?_⟩
  exact q l _ (fresh_back (x2.trans x3) hl) ((x2.trans x3).trans (Ex.new hl)) upd_same
/-- tuple + new tuple -/
theorem eu_cat {p : Addr} {xs ys : List V} (ha : Ev ta σ H (.ref p)) (hp : SqT K H p xs) (hb : EvU tb σ H ys) (hx : xs ≠ []) (hy : ys ≠ []) (hz : xs.length + ys.length ≤ 100000) : EvU (tOp (rCatT K) ta tb) σ H (xs ++ ys) := by
  intro H1 x1 Q q
  refine ha H1 x1 _ fun H2 x2 => hb H2 (x1.trans x2) _ fun p3 H3 hp3 x3 h3 => ?_
  refine ⟨p, p3, xs, ys, rfl, rfl, ex_t (x1.trans (x2.trans x3)) hp, .inl (.inl h3), hx, sz_of hz, fun z => absurd z hy, fun _ l hl => ?_⟩
  exact q l _ (fresh_back (x2.trans x3) hl) ((x2.trans x3).trans (Ex.new hl)) upd_same
end
def spEnded (K : PySem.W.Frag) : Sp := fun vs H Q _ => ∃ (p : Addr) (o : List Nat) (c : Int), vs = [.ref p, .int c] ∧ SqT K H p (o.map nv) ∧ IsOrd o ∧ o.length ≤ 5 ∧ ∀ (p2 : Addr) (o2 : List Nat) (H2 : Hp), IsOrd o2 → Evl.Ex H H2 → SqT K H2 p2 (o2.map nv) → Q (.ref p2) H2
abbrev s_law_least : Stmt := topS 21
theorem sc_law_least : FnScope ["_law_order_here", "_law_things", "_law_thing", "_law_one"] ["_law_order_here", "_law_things"] (defScope s_law_least) := ⟨rfl, rfl, rfl, by decide +kernel, rfl, by decide +kernel, by decide +kernel⟩
abbrev s_law_greatest : Stmt := topS 22
theorem sc_law_greatest : FnScope ["_law_order_here", "_law_things", "_law_thing", "_law_one"] ["_law_order_here", "_law_things"] (defScope s_law_greatest) := ⟨rfl, rfl, rfl, by decide +kernel, rfl, by decide +kernel, by decide +kernel⟩
abbrev s_law_back : Stmt := topS 27
theorem sc_law_back : FnScope ["_law_one", "_law_other", "_law_up", "_law_row", "_law_b", "_law_a"] ["_law_one", "_law_other", "_law_up"] (defScope s_law_back) := ⟨rfl, rfl, rfl, by decide +kernel, rfl, by decide +kernel, by decide +kernel⟩
abbrev s_law_ended : Stmt := topS 29
theorem sc_law_ended : FnScope ["_law_order_here", "_law_cell_here", "_law_many", "_law_mask"] ["_law_order_here", "_law_cell_here"] (defScope s_law_ended) := ⟨rfl, rfl, rfl, by decide +kernel, rfl, by decide +kernel, by decide +kernel⟩
section
variable {P : Program} {w : World} {K : PySem.W.Frag} {mg : Str → Option Value} {base : Heap} {c : Addr}
theorem ok_law_least (B : Bt mg) (D : Df K mg "_law_least" s_law_least c) : Has P w K mg base "_law_least" 1 ["_law_order_here", "_law_things"] (spLeast K) := by
  refine D.has sc_law_least (fun vs H Q E h => ?_) (fun _ _ _ _ _ _ us hl => match us, hl with | [_, _], _ => rfl) (fun f A outer s H vs Q E hr h => ?_)
  · obtain ⟨p, l, o, ts, rfl, _⟩ := h
    rfl
  · obtain ⟨p, l, o, ts, rfl, ho, hl, ht, hz, q⟩ := h
    refine ⟨_, (pss_cons (ps_for PassesOwn.never rfl (listK K rfl (pv 1)) (pg_name (i := 2) sc_law_least.nd rfl (.inr rfl))
    (pss_one (ps_if (pt_val (pe_callB (allK K rfl rfl) (by rfl) B.all_ bb_all (pa_cons (pe_lc (own := [("_law_one", 3)]) (g := gName 3) rfl sc_law_least.nd (listK K rfl (pv 1)) (blkOk_by (by kernel_rfl)) (fun _ _ _ _ _ => pg_name (i := 3) sc_law_least.nd rfl (.inl rfl)) (fun _ _ _ _ _ => pts_nil) (fun _ _ _ _ _ => (pe_cmpR op_eq (pe_op op_and (pe_op op_shr (pe_ix (ixT K rfl) (pv 0) (pv 3) (fun _ _ => rfl)) (pv 2)) pe_int) pe_int (nomark _)))) pa_nil)))
      (pss_one (ps_ret (pv 2)))
      pss_nil)))
  (pss_one (ps_ret pe_non)))
      , ?_⟩
    refine q_forLn (a := l) (xs := ts.map nv) (ev_var rfl) hl (fun i σ H' => ∃ x y, σ = [some (.ref p), some (.ref l), x, y] ∧ Evl.Ex H H') (fun H1 x1 => ⟨none, none, rfl, x1⟩) (fun i σ H' _ ⟨_, _, _, x⟩ => ex_l x hl) (fun i x σ H' hx hP => ?_) (fun σ H' hP => ?_)
    · obtain ⟨y, z, rfl, x1⟩ := hP
      have hi : i < ts.length := by
        have := at_lt hx
        rw [List.length_map] at this
        exact this
      rw [getN hi] at hx
      obtain rfl := Option.some.inj hx
      refine s_when (b := ((List.range ts.length).map fun j => le o (ts.getD i 0) (ts.getD j 0)).all id) (et_B (ev_all (K := K) ?_)) (fun hb H2 x2 => ?_) (fun hb H2 x2 => ⟨_, _, rfl, x1.trans x2⟩)
      · rw [List.map_map, show (V.bl ∘ fun j => le o (ts.getD i 0) (ts.getD j 0)) = fun j => V.bl (le o (ts.getD i 0) (ts.getD j 0)) from rfl, ← given_all, show ts.length = (ts.map nv).length by rw [List.length_map]]
        refine el_lcL (a := l) (xs := ts.map nv) (fun _ => true) (fun j => V.bl (le o (ts.getD i 0) (ts.getD j 0))) (ev_var rfl) (ex_l x1 hl) (by rw [List.length_map]; omega) (fun x => rfl) (fun j x H2 x2 hx => et_yes) (fun j x H2 x2 hx _ => ?_)
        have hj : j < ts.length := by
          have := at_lt hx
          rw [List.length_map] at this
          exact this
        rw [getN hj] at hx
        obtain rfl := Option.some.inj hx
        exact ev_bitB (ev_ixT (ev_var rfl) (ev_var rfl) (ex_t (x1.trans x2) ho) (getN (ht _ (get_mem hj)))) (ev_var rfl)
      · refine s_ret (ev_var rfl) fun H3 x3 => q (some (ts.getD i 0)) (fun k hk => ?_) H3 (x1.trans (x2.trans x3))
        obtain rfl := Option.some.inj hk
        exact ⟨get_mem hi, all_mem (all_true.mp hb)⟩
    · obtain ⟨y, z, rfl, x1⟩ := hP
      exact s_ret ev_c fun H2 x2 => q none (fun k hk => by cases hk) H2 (x1.trans x2)
theorem ok_law_greatest (B : Bt mg) (D : Df K mg "_law_greatest" s_law_greatest c) : Has P w K mg base "_law_greatest" 1 ["_law_order_here", "_law_things"] (spGreatest K) := by
  refine D.has sc_law_greatest (fun vs H Q E h => ?_) (fun _ _ _ _ _ _ us hl => match us, hl with | [_, _], _ => rfl) (fun f A outer s H vs Q E hr h => ?_)
  · obtain ⟨p, l, o, ts, rfl, _⟩ := h
    rfl
  · obtain ⟨p, l, o, ts, rfl, ho, hl, ht, hz, q⟩ := h
    refine ⟨_, (pss_cons (ps_for PassesOwn.never rfl (listK K rfl (pv 1)) (pg_name (i := 2) sc_law_greatest.nd rfl (.inr rfl))
    (pss_one (ps_if (pt_val (pe_callB (allK K rfl rfl) (by rfl) B.all_ bb_all (pa_cons (pe_lc (own := [("_law_one", 3)]) (g := gName 3) rfl sc_law_greatest.nd (listK K rfl (pv 1)) (blkOk_by (by kernel_rfl)) (fun _ _ _ _ _ => pg_name (i := 3) sc_law_greatest.nd rfl (.inl rfl)) (fun _ _ _ _ _ => pts_nil) (fun _ _ _ _ _ => (pe_cmpR op_eq (pe_op op_and (pe_op op_shr (pe_ix (ixT K rfl) (pv 0) (pv 2) (fun _ _ => rfl)) (pv 3)) pe_int) pe_int (nomark _)))) pa_nil)))
      (pss_one (ps_ret (pv 2)))
      pss_nil)))
  (pss_one (ps_ret pe_non)))
      , ?_⟩
    refine q_forLn (a := l) (xs := ts.map nv) (ev_var rfl) hl (fun i σ H' => ∃ x y, σ = [some (.ref p), some (.ref l), x, y] ∧ Evl.Ex H H') (fun H1 x1 => ⟨none, none, rfl, x1⟩) (fun i σ H' _ ⟨_, _, _, x⟩ => ex_l x hl) (fun i x σ H' hx hP => ?_) (fun σ H' hP => ?_)
    · obtain ⟨y, z, rfl, x1⟩ := hP
      have hi : i < ts.length := by
        have := at_lt hx
        rw [List.length_map] at this
        exact this
      rw [getN hi] at hx
      obtain rfl := Option.some.inj hx
      refine s_when (b := ((List.range ts.length).map fun j => le o (ts.getD j 0) (ts.getD i 0)).all id) (et_B (ev_all (K := K) ?_)) (fun hb H2 x2 => ?_) (fun hb H2 x2 => ⟨_, _, rfl, x1.trans x2⟩)
      · rw [List.map_map, show (V.bl ∘ fun j => le o (ts.getD j 0) (ts.getD i 0)) = fun j => V.bl (le o (ts.getD j 0) (ts.getD i 0)) from rfl, ← given_all, show ts.length = (ts.map nv).length by rw [List.length_map]]
        refine el_lcL (a := l) (xs := ts.map nv) (fun _ => true) (fun j => V.bl (le o (ts.getD j 0) (ts.getD i 0))) (ev_var rfl) (ex_l x1 hl) (by rw [List.length_map]; omega) (fun x => rfl) (fun j x H2 x2 hx => et_yes) (fun j x H2 x2 hx _ => ?_)
        have hj : j < ts.length := by
          have := at_lt hx
          rw [List.length_map] at this
          exact this
        rw [getN hj] at hx
        obtain rfl := Option.some.inj hx
        exact ev_bitB (ev_ixT (ev_var rfl) (ev_var rfl) (ex_t (x1.trans x2) ho) (getN (ht _ (get_mem hi)))) (ev_var rfl)
      · refine s_ret (ev_var rfl) fun H3 x3 => q (some (ts.getD i 0)) (fun k hk => ?_) H3 (x1.trans (x2.trans x3))
        obtain rfl := Option.some.inj hk
        exact ⟨get_mem hi, all_mem (p := fun t => le o t (ts.getD i 0)) (all_true.mp hb)⟩
    · obtain ⟨y, z, rfl, x1⟩ := hP
      exact s_ret ev_c fun H2 x2 => q none (fun k hk => by cases hk) H2 (x1.trans x2)
theorem ok_law_back (B : Bt mg) (h_law_greatest : Has P w K mg base "_law_greatest" 1 ["_law_order_here", "_law_things"] (spGreatest K)) (D : Df K mg "_law_back" s_law_back c) : Has P w K mg base "_law_back" 2 ["_law_one", "_law_other", "_law_up"] (spBack K) := by
  refine D.has sc_law_back (fun vs H Q E h => ?_) (fun _ _ _ _ _ _ us hl => match us, hl with | [_, _, _], _ => rfl) (fun f A outer s H vs Q E hr h => ?_)
  · obtain ⟨p1, p2, p3, o, q, u, rfl, _⟩ := h
    rfl
  · obtain ⟨p1, p2, p3, o, q, u, rfl, h1, h2, h3, ol, ql, ul, k⟩ := h
    refine ⟨_, (pss_cons (ps_set (i := 3) sc_law_back.nd rfl (.inl rfl) (pe_lst pa_nil))
  (pss_cons (ps_for PassesOwn.never rfl (pi_range1 (by rfl) B.range_ (pa_cons (pe_callB (lenK K rfl) (by rfl) B.len_ boot_len (pa_cons (pv 1) pa_nil)) pa_nil)) (pg_name (i := 4) sc_law_back.nd rfl (.inr rfl))
    (pss_one (ps_expr (pe_bm PySem.F.plainAttrs_list PySem.F.slot_list_append PySem.F.type_list_append mt_append (pv 3) (pa_cons (pe_has h_law_greatest (hr.mono (by decide)) (by rfl) (pa_cons (pv 0) (pa_cons (pe_lc (own := [("_law_a", 5)]) (g := gName 5) rfl sc_law_back.nd (pi_range1 (by rfl) B.range_ (pa_cons (pe_callB (lenK K rfl) (by rfl) B.len_ boot_len (pa_cons (pv 0) pa_nil)) pa_nil)) (blkOk_by (by kernel_rfl)) (fun _ _ _ _ _ => pg_name (i := 5) sc_law_back.nd rfl (.inl rfl)) (fun _ _ _ _ _ => (pts_one (pt_cmpR op_eq (pe_op op_and (pe_op op_shr (pe_ix (ixT K rfl) (pv 1) (pv 4) (fun _ _ => rfl)) (pe_ix (ixL K rfl) (pv 2) (pv 5) (fun _ _ => rfl))) pe_int) pe_int (nomark _)))) (fun _ _ _ _ _ => (pv 5))) pa_nil))) pa_nil)))))
  (pss_one (ps_ret (pv 3)))))
      , ?_⟩
    refine q_asgL (el_lst ea_nil (by decide)) fun pr H1 hpr x1 hrow => ?_
    refine q_forR1 (n := (q.length : Int)) (ea_cons (ev_is (ev_lenT (ev_var rfl) (ex_t x1 h2)) (by rw [List.length_map])) ea_nil) (by omega)
      (fun b σ H' => ∃ (y z : Option V) (d : List (Option Nat)), σ = [some (.ref p1), some (.ref p2), some (.ref p3), some (.ref pr), y, z] ∧ Evl.Ex H H' ∧ H' pr = some (.lst (d.map ov)) ∧ d.length = b ∧ ∀ b g, d[b]? = some (some g) → g < o.length ∧ le q (u.getD g 0) b = true ∧ ∀ a, a < o.length → le q (u.getD a 0) b = true → le o a g = true)
      (fun H2 x2 => ⟨none, none, [], rfl, x1.trans x2, x2 _ _ hrow, rfl, fun b g e => by simp at e⟩) (fun b σ H' hb hP => ?_) (fun σ H' hP => ?_)
    · obtain ⟨y, z, d, rfl, x2, hd, dl, inv⟩ := hP
      have hb' : b < q.length := by omega
      refine ⟨.ref pr, rfl, .inl ⟨rfl, _, .inl (.inl hd)⟩, .ref p1, rfl, ?_⟩
      refine el_lcR1 (n := (o.length : Int)) (fun a => le q (u.getD a 0) b) nv (ea_cons (ev_is (ev_lenT (ev_var rfl) (ex_t x2 h1)) (by rw [List.length_map])) ea_nil) (by omega) (fun x => rfl) (fun a H3 x3 ha => ?_) (fun a H3 x3 ha _ => ev_var rfl) H' (Evl.Ex.refl _) _ fun pl H3 hpl x3 hl => ?_
      · exact et_bit (ev_ixT (ev_var rfl) (ev_var rfl) (ex_t (x2.trans x3) h2) (getN hb')) (ev_ixL (ev_var rfl) (ev_var rfl) (ex_l (x2.trans x3) h3) (getN (by omega)))
      · refine ⟨p1, pl, o, (List.range o.length).filter fun a => le q (u.getD a 0) b, rfl, ex_t (x2.trans x3) h1, .inl (.inl hl), fun t ht => List.mem_range.mp (List.mem_filter.mp ht).1, ?_, fun v hv H4 x4 => ⟨pr, d.map ov, ov v, rfl, rfl, x4 _ _ (x3 _ _ hd), sz_lt (by rw [List.length_map]; omega), _, _, d ++ [v], rfl, (x2.trans (x3.trans x4)).mut hpr, by rw [upd_same, List.map_append]; rfl, by rw [List.length_append, dl]; rfl, fun b2 g e => ?_⟩⟩
        · have := List.length_filter_le (fun a => le q (u.getD a 0) b) (List.range o.length)
          rw [List.length_range] at this
          omega
        · by_cases hlt : b2 < d.length
          · rw [List.getElem?_append_left hlt] at e
            exact inv b2 g e
          · rw [List.getElem?_append_right (by omega)] at e
            have e0 : b2 - d.length = 0 := by
              have := at_lt e
              rw [List.length_singleton] at this
              omega
            rw [e0] at e
            have ev : v = some g := Option.some.inj e
            obtain ⟨g1, g2⟩ := hv g ev
            have g3 := List.mem_filter.mp g1
            have eb : b2 = b := by omega
            rw [eb]
            exact ⟨List.mem_range.mp g3.1, g3.2, fun a ha hl => g2 a (List.mem_filter.mpr ⟨List.mem_range.mpr ha, hl⟩)⟩
    · obtain ⟨y, z, d, rfl, x2, hd, dl, inv⟩ := hP
      rw [Int.toNat_natCast] at dl
      exact s_ret (ev_var rfl) fun H3 x3 => k d ⟨dl, inv⟩ pr H3 hpr (x2.trans x3) (x3 _ _ hd)
theorem ok_law_ended (B : Bt mg) (D : Df K mg "_law_ended" s_law_ended c) : Has P w K mg base "_law_ended" 1 ["_law_order_here", "_law_cell_here"] (spEnded K) := by
  refine D.has sc_law_ended (fun vs H Q E h => ?_) (fun _ _ _ _ _ _ us hl => match us, hl with | [_, _], _ => rfl) (fun f A outer s H vs Q E hr h => ?_)
  · obtain ⟨p, o, a, rfl, _⟩ := h
    rfl
  · obtain ⟨p, o, a, rfl, ho, io, ol, q⟩ := h
    refine ⟨_, (pss_cons (ps_set (i := 2) sc_law_ended.nd rfl (.inl rfl) (pe_callB (lenK K rfl) (by rfl) B.len_ boot_len (pa_cons (pv 0) pa_nil)))
  (pss_cut (ps_if (pt_cmpR op_ne (pe_op op_mod (pv 1) pe_int) pe_int (nomark _))
    (pss_cons (ps_set (i := 0) sc_law_ended.nd rfl (.inl rfl) (tupleK K rfl (by rfl) B.tuple_ (pe_op op_cat (pe_lst (pa_cons pe_int pa_nil)) (pe_lc (own := [("_law_mask", 3)]) (g := gName 3) rfl sc_law_ended.nd (tupK K rfl (pv 0)) (blkOk_by (by kernel_rfl)) (fun _ _ _ _ _ => pg_name (i := 3) sc_law_ended.nd rfl (.inl rfl)) (fun _ _ _ _ _ => pts_nil) (fun _ _ _ _ _ => (pe_op op_add (pe_op op_mul (pv 3) pe_int) pe_int))))))
    (pss_one (ps_set (i := 2) sc_law_ended.nd rfl (.inl rfl) (pe_op op_add (pv 2) pe_int))))
    pss_nil)
  (pss_cut (ps_if (pt_cmpR op_eq (pe_op op_mod (pe_op op_fdiv (pv 1) pe_int) pe_int) pe_int (nomark _))
    (pss_one (ps_set (i := 0) sc_law_ended.nd rfl (.inl rfl) (pe_op (catK K rfl) (pv 0) (pe_tup (pa_cons (pe_op op_sub (pe_op op_shl pe_int (pe_op op_add (pv 2) pe_int)) pe_int) pa_nil)))))
    pss_nil)
  (pss_one (ps_ret (pv 0))))))
      , ?_⟩
    refine q_asg (v := nv o.length) (ev_is (ev_lenT (ev_var rfl) ho) (by rw [List.length_map])) fun H1 x1 => ?_
    refine q_cut (M := fun σ H' => ∃ (p2 : Addr) (o2 : List Nat) (z : Option V), σ = [some (.ref p2), some (.int a), some (nv o2.length), z] ∧ IsOrd o2 ∧ o2.length ≤ 6 ∧ Evl.Ex H H' ∧ SqT K H' p2 (o2.map nv)) ?_ fun σ H' hM => ?_
    · refine s_when (et_test (ev_op (ev_op (ev_var rfl) ev_c (rv_I (by show (0 : Int) < 3; decide))) ev_c (rv_ne rfl))) (fun hb H2 x2 => ?_) (fun hb H2 x2 => ⟨p, o, none, rfl, io, by omega, x1.trans x2, ex_t (x1.trans x2) ho⟩)
      refine q_asgU (xs := (bot o).map nv) ?_ fun p2 H3 hp2 x3 h3 => ?_
      · refine eu_tupleN (K := K) ?_
        have e : (bot o).map nv = [V.int 1] ++ given (o.map nv).length (fun _ => true) (fun j => nv (o.getD j 0 * 2 + 1)) := by
          rw [given_all]
          show V.int 1 :: (o.map fun m => m * 2 + 1).map nv = V.int 1 :: (List.range (o.map nv).length).map fun j => nv (o.getD j 0 * 2 + 1)
          congr 1
          apply List.ext_getElem?
          intro j
          rw [List.getElem?_map, List.getElem?_map, List.getElem?_map, List.length_map]
          by_cases hj : j < o.length
          · rw [List.getElem?_range hj, List.getElem?_eq_getElem hj]
            show some (nv (o[j] * 2 + 1)) = some (nv (o.getD j 0 * 2 + 1))
            rw [List.getD_eq_getElem?_getD, List.getElem?_eq_getElem hj]
            rfl
          · rw [List.getElem?_eq_none (by omega), List.getElem?_eq_none (by rw [List.length_range]; omega)]
            rfl
        rw [e]
        refine el_cat (el_lst (ea_cons ev_c ea_nil) (by decide)) (el_lcU (K := K) (a := p) (xs := o.map nv) (fun _ => true) (fun j => nv (o.getD j 0 * 2 + 1)) (ev_var rfl) (ex_t (x1.trans x2) ho) (by rw [List.length_map]; omega) (fun x => rfl) (fun j x H3 x3 hx => et_yes) (fun j x H3 x3 hx _ => ?_)) ?_
        · have hj : j < o.length := by
            have := at_lt hx
            rw [List.length_map] at this
            exact this
          rw [getN hj] at hx
          obtain rfl := Option.some.inj hx
          exact ev_is (ev_op (ev_op (ev_var rfl) ev_c (rv_I (.inr (by decide)))) ev_c rv_I0) (by
            show V.int _ = V.int _
            congr 1)
        · have := given_len (o.map nv).length (fun _ => true) (fun j => nv (o.getD j 0 * 2 + 1))
          rw [List.length_singleton]
          rw [List.length_map] at this ⊢
          omega
      · refine s_asg (v := nv (o.length + 1)) (ev_is (ev_op (ev_var rfl) ev_c rv_I0) rfl) fun H4 x4 => ⟨p2, bot o, none, ?_, bot_ord io (by omega), ?_, x1.trans (x2.trans (x3.trans x4)), .inl (.inl (x4 _ _ h3))⟩
        · show _ = [some (V.ref p2), some (V.int a), some (nv ((o.map fun m => m * 2 + 1).length + 1)), none]
          rw [List.length_map]
          rfl
        · show (o.map fun m => m * 2 + 1).length + 1 ≤ 6
          rw [List.length_map]
          omega
    · obtain ⟨p2, o2, z, rfl, io2, ol2, x2, ho2⟩ := hM
      refine q_cut (M := fun σ H' => ∃ (p3 : Addr) (o3 : List Nat) (y z : Option V), σ = [some (.ref p3), some (.int a), y, z] ∧ IsOrd o3 ∧ Evl.Ex H H' ∧ SqT K H' p3 (o3.map nv)) ?_ fun σ H' hM => ?_
      · refine s_when (et_test (ev_op (ev_op (ev_op (ev_var rfl) ev_c (rv_I ⟨by decide, by decide⟩)) ev_c (rv_I (by show (0 : Int) < 3; decide))) ev_c (rv_eq rfl))) (fun hb H3 x3 => ?_) (fun hb H3 x3 => ⟨p2, o2, _, _, rfl, io2, x2.trans x3, ex_t x3 ho2⟩)
        refine s_asgU (xs := (topp o2).map nv) ?_ fun p3 H4 hp3 x4 h4 => ⟨p3, topp o2, _, _, rfl, top_ord io2 ol2, x2.trans (x3.trans x4), .inl (.inl h4)⟩
        unfold topp
        rw [List.map_append]
        refine eu_cat (K := K) (p := p2) (ev_var rfl) (ex_t x3 ho2) (eu_tup (ea_cons ?_ ea_nil) (by show 1 ≤ 100000; decide)) (fun e => ?_) (fun e => by cases e) ?_
        · refine ev_is (ev_op (ev_op ev_c (ev_op (ev_var rfl) ev_c rv_I0) (rv_I ⟨by omega, by omega, by decide⟩)) ev_c rv_I0) ?_
          show V.int (1 * 2 ^ ((o2.length : Int) + 1).toNat - 1) = V.int ((2 ^ (o2.length + 1) - 1 : Nat) : Int)
          congr 1
          rw [show ((o2.length : Int) + 1).toNat = o2.length + 1 by omega, Int.one_mul, Int.natCast_sub Nat.one_le_two_pow]
          norm_cast
        · have e1 := congrArg List.length e
          rw [List.length_map] at e1
          have e2 := io2.pos
          rw [e1] at e2
          exact absurd e2 (by decide)
        · rw [List.length_map]
          show o2.length + 1 ≤ 100000
          omega
      · obtain ⟨p3, o3, y, z, rfl, io3, x3, ho3⟩ := hM
        exact s_ret (ev_var rfl) fun H4 x4 => q p3 o3 H4 io3 (x3.trans x4) (ex_t x4 ho3)
end
end Sw
set_option Elab.async false
set_option linter.all false
set_option maxRecDepth 100000
set_option maxHeartbeats 4000000
/-! signs_from, signs_table, sum_ahead, sum_back -/
namespace Sw
open PySem PySem.Spec PyProof.Rows L2 LamX NdefX SwK Evl
/-! ### heaps in which the tables of code objects grow -/
theorem ExtN.rd {H H' : Hp} {a : Addr} {u : HO} (e : ExtN H H') (h : Rd H a u) (n : ∀ ps, u ≠ .tbl ps) : Rd H' a u := by
  rcases h with h | ⟨o, h⟩
  · exact .inl (e a u h n)
  · exact .inr ⟨o, e a _ h fun ps z => by cases z⟩
theorem extL {K : PySem.W.Frag} {H H' : Hp} {a : Addr} {xs : List V} (e : ExtN H H') (h : SqL K H a xs) : SqL K H' a xs := by
  rcases h with h | h
  · exact .inl (ExtN.rd e h fun ps z => by cases z)
  · exact .inr h
theorem extT {K : PySem.W.Frag} {H H' : Hp} {a : Addr} {xs : List V} (e : ExtN H H') (h : SqT K H a xs) : SqT K H' a xs := by
  rcases h with h | h
  · exact .inl (ExtN.rd e h fun ps z => by cases z)
  · exact .inr h
theorem ext_lst {H H' : Hp} {a : Addr} {xs : List V} (e : ExtN H H') (h : H a = some (.lst xs)) : H' a = some (.lst xs) := e a _ h fun ps z => by cases z
theorem ext_tup {H H' : Hp} {a : Addr} {xs : List V} (e : ExtN H H') (h : H a = some (.tup xs)) : H' a = some (.tup xs) := e a _ h fun ps z => by cases z
theorem ext_ex {H H' : Hp} (e : Evl.Ex H H') : ExtN H H' := fun b o h _ => e b o h
/-! ### masks of an order -/
theorem bits_pre {o : List Nat} (h : IsOrd o) {b : Nat} (hb : b < o.length) : bits (o.getD b 0) = pre (o.getD b 0) o.length := by
  have e := pre_more (lt_of_bits (h.low b hb)) (16 - o.length)
  have := h.top
  rw [show o.length + (16 - o.length) = 16 by omega] at e
  exact e
theorem mask_lt {o : List Nat} (h : IsOrd o) {b : Nat} (hb : b < o.length) : o.getD b 0 < 65536 := by
  have e := lt_of_bits (h.low b hb)
  have h2 : (2 : Nat) ^ o.length ≤ 2 ^ 16 := Nat.pow_le_pow_right (by omega) (by have := h.top; omega)
  omega
theorem bits_size {o : List Nat} (h : IsOrd o) {b : Nat} (hb : b < o.length) : ((bits (o.getD b 0)).length : Int) = size o.length (le o) b := by
  rw [bits_pre h hb]
  exact len_range (fun k => (o.getD b 0).testBit k) o.length
theorem bits_sum {o : List Nat} (h : IsOrd o) {b : Nat} (hb : b < o.length) (r : Nat → Int) : ((bits (o.getD b 0)).map r).sum = dn o.length (le o) r b := by
  rw [bits_pre h hb]
  exact sum_range r (fun k => (o.getD b 0).testBit k) o.length
theorem map_getD (l : List Nat) (g : Nat → V) : l.map g = (List.range l.length).map fun j => g (l.getD j 0) := by
  apply List.ext_getElem?
  intro j
  rw [List.getElem?_map, List.getElem?_map]
  by_cases hj : j < l.length
  · rw [List.getElem?_range hj, List.getElem?_eq_getElem hj]
    show some (g _) = some (g _)
    rw [List.getD_eq_getElem?_getD, List.getElem?_eq_getElem hj]
    rfl
  · rw [List.getElem?_eq_none (by omega), List.getElem?_eq_none (by rw [List.length_range]; omega)]
    rfl
/-! ### all things, none ahead of one beneath it -/
structure Lin (o L : List Nat) : Prop where
  perm : L.Perm (List.range o.length)
  ord : L.Pairwise fun x y => le o y x = true → y = x
theorem Lin.of {o : List Nat} (h : IsOrd o) {L : List Nat} (p : L.Perm (List.range o.length)) (q : L.Pairwise fun x y => ¬ size o.length (le o) y < size o.length (le o) x) : Lin o L := by
  refine ⟨p, List.Pairwise.imp_of_mem (fun {x y} hx hy z e => ?_) q⟩
  by_cases ne : y = x
  · exact ne
  · have hx := List.mem_range.mp (p.mem_iff.mp hx)
    have hy := List.mem_range.mp (p.mem_iff.mp hy)
    exact absurd (size_lt h.po hy hx e ne) z
theorem Lin.nd {o L : List Nat} (h : Lin o L) : L.Nodup := h.perm.nodup_iff.mpr List.nodup_range
theorem Lin.len {o L : List Nat} (h : Lin o L) : L.length = o.length := by
  have := h.perm.length_eq
  rw [List.length_range] at this
  exact this
theorem Lin.lt {o L : List Nat} (h : Lin o L) {i b : Nat} (hb : L[i]? = some b) : b < o.length := List.mem_range.mp (h.perm.mem_iff.mp (List.mem_of_getElem? hb))
/-- what is beneath stands ahead -/
theorem Lin.ahead {o L : List Nat} (h : Lin o L) {i b c : Nat} (hb : L[i]? = some b) (hc : c < o.length) (hl : le o c b = true) (ne : c ≠ b) : c ∈ L.take i := by
  obtain ⟨j, hj⟩ := List.mem_iff_getElem?.mp (h.perm.mem_iff.mpr (List.mem_range.mpr hc))
  have j1 := at_lt hj
  have i1 := at_lt hb
  rw [List.getElem?_eq_getElem j1] at hj
  rw [List.getElem?_eq_getElem i1] at hb
  by_cases hji : j < i
  · rw [List.mem_take_iff_getElem]
    exact ⟨j, by omega, Option.some.inj hj⟩
  · exfalso
    by_cases e : j = i
    · subst e
      exact ne ((Option.some.inj hj).symm.trans (Option.some.inj hb))
    · have z := List.pairwise_iff_getElem.mp h.ord i j i1 j1 (by omega)
      rw [Option.some.inj hj, Option.some.inj hb] at z
      exact ne (z hl)
/-- what stands ahead is not above -/
theorem Lin.notup {o L : List Nat} (h : Lin o L) {i b c : Nat} (hb : L[i]? = some b) (hc : c ∈ L.take i) (hl : le o b c = true) : False := by
  obtain ⟨j, hj, e⟩ := List.mem_take_iff_getElem.mp hc
  have i1 := at_lt hb
  rw [List.getElem?_eq_getElem i1] at hb
  have z := List.pairwise_iff_getElem.mp h.ord j i (by omega) i1 (by omega)
  rw [e, Option.some.inj hb] at z
  have eq := z hl
  have w : L[i] = L[j] := by rw [e, Option.some.inj hb, eq]
  have := (List.getElem_inj h.nd).mp w
  omega
theorem Lin.fresh {o L : List Nat} (h : Lin o L) {i b : Nat} (hb : L[i]? = some b) : b ∉ L.take i := fun hc => by
  obtain ⟨j, hj, e⟩ := List.mem_take_iff_getElem.mp hc
  have i1 := at_lt hb
  rw [List.getElem?_eq_getElem i1] at hb
  have := (List.getElem_inj h.nd).mp (e.trans (Option.some.inj hb).symm)
  omega
theorem mem_take_succ {L : List Nat} {i b c : Nat} (hb : L[i]? = some b) : c ∈ L.take (i + 1) ↔ c ∈ L.take i ∨ c = b := by
  rw [List.take_add_one, hb]
  simp
/-- ints that are the things rearranged -/
theorem perm_ints {ns : List Int} {n : Nat} (h : ns.Perm ((List.range n).map fun k : Nat => (k : Int))) : ∃ L : List Nat, ns = L.map (fun k : Nat => (k : Int)) ∧ L.Perm (List.range n) := by
  refine ⟨ns.map Int.toNat, ?_, ?_⟩
  · rw [List.map_map]
    have e : ∀ x ∈ ns, (fun k : Nat => (k : Int)) (Int.toNat x) = x := fun x hx => by
      obtain ⟨k, _, rfl⟩ := List.mem_map.mp (h.mem_iff.mp hx)
      show ((Int.toNat (k : Int) : Nat) : Int) = k
      rw [Int.toNat_natCast]
    conv => lhs; rw [← List.map_id ns]
    exact List.map_congr_left fun x hx => (e x hx).symm
  · have := h.map Int.toNat
    rw [List.map_map] at this
    have e : ((List.range n).map (Int.toNat ∘ fun k : Nat => (k : Int))) = List.range n := by
      conv => rhs; rw [← List.map_id (List.range n)]
      exact List.map_congr_left fun k _ => by simp
    rw [e] at this
    exact this
theorem rg_nat (n : Nat) : ((List.range n).map fun k : Nat => (k : Int)).map V.int = rgV 0 (n : Int) := by
  unfold rgV
  rw [List.map_map, show (((n : Int) - 0).toNat) = n by omega]
  exact List.map_congr_left fun k _ => by simp
/-! ### promises -/
def spSignsFrom (K : PySem.W.Frag) (T : List (Addr × Str)) : Sp := fun vs H Q _ => ∃ (p : Addr) (o : List Nat) (a : Nat), vs = [.ref p, nv a] ∧ SqT K H p (o.map nv) ∧ IsOrd o ∧ a < o.length ∧ Tabs T H ∧
  ∀ (r : Nat → Int) (p2 : Addr) (H2 : Hp), (∀ b, b < o.length → dn o.length (le o) r b = dl a b) → ExtN H H2 → Tabs T H2 → H2 p2 = some (.tup (rowV o.length r)) → Q (.ref p2) H2
abbrev s_signs_from : Stmt := topS 8
theorem sc_signs_from : FnScope ["order", "a", "row", "b", "c"] ["order", "a"] (defScope s_signs_from) := ⟨rfl, rfl, rfl, by decide +kernel, rfl, by decide +kernel, by decide +kernel⟩
section
variable {P : Program} {w : World} {K : PySem.W.Frag} {mg : Str → Option Value} {base : Heap} {c Pc : Addr} {T : List (Addr × Str)}
theorem ok_signs_from (B : Bt mg) (h_things_in : Has P w K mg base "things_in" 1 ["mask"] spThings) (h_many_in : Has P w K mg base "many_in" 2 ["mask"] spMany) (h_has_thing : Has P w K mg base "has_thing" 1 ["mask", "thing"] spHas)
    (TB : TabB base mg c Pc) (hmT : (Pc, ("signs_from" : Str) ++ ".<locals>." ++ "<lambda>") ∈ T) (hu : ∀ p ∈ T, p.1 = Pc → p.2 = ("signs_from" : Str) ++ ".<locals>." ++ "<lambda>")
    (D : Df K mg "signs_from" s_signs_from c) : Has P w K mg base "signs_from" 6 ["order", "a"] (spSignsFrom K T) := by
  refine D.has sc_signs_from (fun vs H Q E h => ?_) (fun _ _ _ _ _ _ us hl => match us, hl with | [_, _], _ => rfl) (fun f A outer s H vs Q E hr h => ?_)
  · obtain ⟨p, o, a, rfl, _⟩ := h
    rfl
  · obtain ⟨p, o, a, rfl, ho, io, ha, hT, q⟩ := h
    have n7 := io.top
    refine ⟨_, (pss_cons (ps_set (i := 2) sc_signs_from.nd rfl (.inr rfl) (pe_op op_rep (pe_lst (pa_cons pe_int pa_nil)) (pe_callB (lenK K rfl) (by rfl) B.len_ boot_len (pa_cons (pv 0) pa_nil))))
  (pss_cons (ps_asg pe_int (pg_sub (pv 2) (pv 1) set_list))
  (pss_cons (ps_for PassesOwn.never rfl (listK K rfl (pe_sortLam (by rfl) B.sorted_ (pe_callTy cr_rng (by rfl) B.range_ bb_range (pa_cons (pe_callB (lenK K rfl) (by rfl) B.len_ boot_len (pa_cons (pv 0) pa_nil)) pa_nil)) (T := T) (c := c) (P := Pc) (N := ["thing", "order"]) (fr := ["order"]) (js := [0]) (k := 2) (a := "thing") TB rfl hmT hu rfl (nscope_by (by decide +kernel)) (by kernel_rfl) rfl (fun _ _ _ _ _ _ => rfl) hr (fun A q cl c' f s H hr => pe_has h_many_in hr (by rfl) (pa_cons (pe_ix (ixT K rfl) (pv 1) (pv 0) (fun _ _ => rfl)) pa_nil)))) (pg_name (i := 3) sc_signs_from.nd rfl (.inl rfl))
    (pss_one (ps_if (PW.pt (pw_and (pt_cmpR op_ne (pv 3) (pv 1) (nomark _)) (pw_and1 (pt_val (pe_has h_has_thing (hr.mono (by decide)) (by rfl) (pa_cons (pe_ix (ixT K rfl) (pv 0) (pv 3) (fun _ _ => rfl)) (pa_cons (pv 1) pa_nil)))))))
      (pss_one (ps_asg (pe_un un_neg (pe_callB (sumK K rfl rfl) (by rfl) B.sum_ bb_sum (pa_cons (pe_lc (own := [("c", 4)]) (g := gName 4) rfl sc_signs_from.nd (listK K rfl (pe_has h_things_in (hr.mono (by decide)) (by rfl) (pa_cons (pe_ix (ixT K rfl) (pv 0) (pv 3) (fun _ _ => rfl)) pa_nil))) (blkOk_by (by kernel_rfl)) (fun _ _ _ _ _ => pg_name (i := 4) sc_signs_from.nd rfl (.inl rfl)) (fun _ _ _ _ _ => pts_nil) (fun _ _ _ _ _ => (pe_ix (ixL K rfl) (pv 2) (pv 4) (fun _ _ => rfl)))) pa_nil))) (pg_sub (pv 2) (pv 3) set_list)))
      pss_nil)))
  (pss_one (ps_ret (tupleK K rfl (by rfl) B.tuple_ (pv 2)))))))
      , ?_⟩
    refine q_asgL (el_rep (v := .int 0) (k := o.length) (el_lst (ea_cons ev_c ea_nil) (by decide)) (fun H1 x1 => ev_is (ev_lenT (ev_var rfl) (ex_t x1 ho)) (by rw [List.length_map])) (by omega)) fun pr H1 hpr x1 hrow => ?_
    have T1 : Tabs T H1 := hT.ext x1
    refine q_setL (l := pr) (xs := List.replicate o.length (V.int 0)) (j := a) hrow ev_c (ev_var rfl) (ev_var rfl) (by rw [List.length_replicate]; exact ha) fun H2 x2 => ?_
    have e0 : List.replicate o.length (V.int 0) = rowV o.length fun _ => 0 := by
      unfold rowV
      rw [List.map_const', List.length_range]
    rw [e0, rowV_put _ _ ha]
    have hrow2 := x2 _ _ hrow
    have T2 : Tabs T (upd H2 pr (.lst (rowV o.length (put (fun _ => 0) a 1)))) := tabs_lst (T1.ext x2) hrow2
    have x3 : ExtN H (upd H2 pr (.lst (rowV o.length (put (fun _ => 0) a 1)))) := ext_ex ((x1.trans x2).mut hpr)
    have hr3 : upd H2 pr (.lst (rowV o.length (put (fun _ => 0) a 1))) pr = some (.lst (rowV o.length (put (fun _ => 0) a 1))) := upd_same
    generalize upd H2 pr (.lst (rowV o.length (put (fun _ => 0) a 1))) = H3 at T2 x3 hr3 ⊢
    have ho3 := extT x3 ho
    -- sorted(range(len(order)), key=lambda thing: many_in(order[thing]))
    refine ev_cb (r := rLenS K) (ea_cons (ev_var rfl) ea_nil) (z := nv o.length) (fun H4 x4 Q k => ⟨p, _, rfl, .inr (ex_t x4 ho3), by rw [List.length_map]; exact k H4 (Evl.Ex.refl _)⟩) H3 (Evl.Ex.refl _) _ fun H4 x4 => ?_
    refine ⟨_, rfl, fun pg hpg => ?_⟩
    have T5 : Tabs T (upd H4 pg (.rng 0 (o.length : Int))) := tabs_new (T2.ext x4) hpg
    have x5 : Evl.Ex H3 (upd H4 pg (.rng 0 (o.length : Int))) := x4.trans (Ex.new hpg)
    have hg5 : upd H4 pg (.rng 0 (o.length : Int)) pg = some (.rng 0 (o.length : Int)) := upd_same
    generalize upd H4 pg (.rng 0 (o.length : Int)) = H5 at T5 x5 hg5 ⊢
    refine ⟨(List.range o.length).map fun k : Nat => (k : Int), KInt fun n => ((bits (o.getD n.toNat 0)).length : Int), _, .inr ⟨pg, o.length, rfl, hg5, by omega, by omega, rg_nat _⟩, by rw [List.length_map, List.length_range]; omega, keyInt _, T5, fun n hn H6 x6 T6 => ?_, fun ns' pl H6 x6 T6 fpl hl hp hw => ?_⟩
    · obtain ⟨b, hb, rfl⟩ := List.mem_map.mp hn
      have hb := List.mem_range.mp hb
      refine ev_call (sp := spMany) (vs := [nv (o.getD b 0)]) (z := nv (bits (o.getD b 0)).length) (ea_cons (ev_ixT (K := K) (j := b) (ev_var rfl) (ev_var rfl) (extT x6 (ex_t x5 ho3)) (getN hb)) ea_nil) (fun H7 x7 Q' k E => ⟨_, rfl, mask_lt io hb, fun H8 x8 => k H8 x8⟩) H6 (Evl.Ex.refl _) _ fun H7 x7 => ⟨ext_ex x7, T6.ext x7, ?_⟩
      show V.int _ = V.int ((bits (o.getD (Int.toNat (b : Int)) 0)).length : Int)
      rw [Int.toNat_natCast]
    · obtain ⟨L, rfl, pL⟩ := perm_ints hp
      have lin : Lin o L := by
        refine Lin.of io pL ?_
        rw [List.pairwise_map] at hw
        refine List.Pairwise.imp_of_mem (fun {x y} hx hy z => ?_) hw
        have hx := List.mem_range.mp (pL.mem_iff.mp hx)
        have hy := List.mem_range.mp (pL.mem_iff.mp hy)
        have z' := of_decide_eq_false z
        rw [Int.toNat_natCast, Int.toNat_natCast, bits_size io hx, bits_size io hy] at z'
        exact z'
      have hl : H6 pl = some (.lst (L.map nv)) := by
        rw [hl, List.map_map]
        rfl
      have x6' : ExtN H H6 := (x3.trans (ext_ex x5)).trans x6
      have hr6 : H6 pr = some (.lst (rowV o.length (put (fun _ => 0) a 1))) := ext_lst x6 (x5 _ _ hr3)
      have npl : pl ≠ pr := fun z => fpl pr _ (x5 _ _ hr3) (fun ps z => by cases z) z.symm
      refine ⟨pl, rfl, ⟨_, .inl (.inl hl)⟩, for_list (K := K) (a := pl) (xs := L.map nv) (fun i σ H' => ∃ (b : Option V) (r : Nat → Int), σ = [some (.ref p), some (nv a), some (.ref pr), b, none] ∧ ExtN H H' ∧ Tabs T H' ∧ H' pl = some (.lst (L.map nv)) ∧ H' pr = some (.lst (rowV o.length r)) ∧ RowI o.length (le o) a (fun b => b ∈ L.take i ∨ b = a) r)
        ⟨none, _, rfl, x6', T6, hl, hr6, ?_⟩ (fun i σ H' _ ⟨_, _, _, _, _, z, _⟩ => .inl (.inl z)) (fun i x σ H' hx hP => ?_) (fun σ H' hP => ?_)⟩
      · refine ⟨fun b hb hP hab => ?_, fun b hb hab => ?_, fun b hb hP => ?_⟩
        · rcases hP with z | z
          · simp at z
          · subst z
            have e1 : dn o.length (le o) (put (fun _ => 0) b 1) b = 1 := by
              unfold dn
              rw [S_one hb fun i hi ne => ?_]
              · rw [if_pos (io.po.refl b hb)]
                exact if_pos rfl
              · unfold put
                rw [if_neg ne]
                split <;> rfl
            rw [e1]
            exact (if_pos rfl).symm
        · unfold put
          refine if_neg fun z => ?_
          rw [z, io.po.refl a ha] at hab
          cases hab
        · unfold put
          exact if_neg fun z => hP (.inr z)
      · obtain ⟨y, r, rfl, x7, T7, hl7, hr7, R⟩ := hP
        have hi : i < L.length := by
          have := at_lt hx
          rw [List.length_map] at this
          exact this
        rw [List.getElem?_map, List.getElem?_eq_getElem hi] at hx
        have ex : nv L[i] = x := Option.some.inj hx
        subst ex
        have hbi : L[i]? = some L[i] := List.getElem?_eq_getElem hi
        generalize L[i] = b at hbi ⊢
        have hb := lin.lt hbi
        have ho7 := extT x7 ho
        refine s_when (b := (b != a && le o a b)) (et_and (et_neN (ev_var rfl) (ev_var rfl)) fun _ => et_B (ev_call (sp := spHas) (vs := [nv (o.getD b 0), nv a]) (ea_cons (ev_ixT (ev_var rfl) (ev_var rfl) ho7 (getN hb)) (ea_cons (ev_var rfl) ea_nil)) fun H8 x8 Q' k E => ⟨_, _, rfl, fun H9 x9 => k H9 x9⟩)) (fun hc H8 x8 => ?_) (fun hc H8 x8 => ?_)
        · rw [Bool.and_eq_true, bne_iff_ne] at hc
          have ho8 := ex_t x8 ho7
          have hr8 := x8 _ _ hr7
          refine s_setL (l := pr) (xs := rowV o.length r) (j := b) (v := .int (dl a b - S o.length fun c => if (c != b && le o c b) = true then r c else 0)) hr8 ?_ (ev_var rfl) (ev_var rfl) (by rw [rowV_len]; exact hb) fun H9 x9 => ⟨_, put r b (dl a b - S o.length fun c => if (c != b && le o c b) = true then r c else 0), rfl, extN_new ((x7.trans (ext_ex x8)).trans (ext_ex x9)) hpr, tabs_lst (T7.ext (x8.trans x9)) (x9 _ _ hr8), ?_, ?_, ?_⟩
          · have e1 : dl a b - (S o.length fun c => if (c != b && le o c b) = true then r c else 0) = -(((bits (o.getD b 0)).map r).sum) := by
              rw [bits_sum io hb]
              have e4 : dn o.length (le o) r b = r b + S o.length fun i => if i = b then 0 else if le o i b = true then r i else 0 := by
                unfold dn
                rw [S_split hb, if_pos (io.po.refl b hb)]
              rw [e4]
              unfold dl
              rw [if_neg fun z => hc.1 z.symm]
              have rb : r b = 0 := R.yet b hb fun z => z.elim (lin.fresh hbi) fun z => hc.1 z
              rw [rb]
              have e2 : S o.length (fun c => if (c != b && le o c b) = true then r c else 0) = S o.length fun i => if i = b then 0 else if le o i b = true then r i else 0 := S_congr fun i _ => by
                by_cases z : i = b
                · rw [if_pos z, z]
                  simp
                · rw [if_neg z, bne_iff_ne.mpr z, Bool.true_and]
              rw [e2]
              omega
            rw [e1]
            refine ev_un (ev_sum (K := K) (ns := (bits (o.getD b 0)).map r) ?_) ru_neg
            have e3 : ((bits (o.getD b 0)).map r).map V.int = given ((bits (o.getD b 0)).map nv).length (fun _ => true) (fun j => V.int (r ((bits (o.getD b 0)).getD j 0))) := by
              rw [given_all, List.length_map, List.map_map]
              exact map_getD _ _
            rw [e3]
            refine el_lcNL (xs := (bits (o.getD b 0)).map nv) (fun _ => true) (fun j => V.int (r ((bits (o.getD b 0)).getD j 0))) (el_call (sp := spThings) (vs := [nv (o.getD b 0)]) (ea_cons (ev_ixT (ev_var rfl) (ev_var rfl) ho8 (getN hb)) ea_nil) fun H9 x9 Q' k E => ⟨_, rfl, mask_lt io hb, fun p2 H10 hp2 x10 h10 => k p2 H10 hp2 x10 h10⟩) (by rw [List.length_map]; have := bits_len (o.getD b 0); omega) (fun x => rfl) (fun j x H9 x9 hx => et_yes) (fun j x H9 x9 hx _ => ?_)
            have hj : j < (bits (o.getD b 0)).length := by
              have := at_lt hx
              rw [List.length_map] at this
              exact this
            rw [getN hj] at hx
            obtain rfl := Option.some.inj hx
            have hm : (bits (o.getD b 0)).getD j 0 < o.length := io.low b hb _ ((mem_bits (mask_lt io hb)).mp (get_mem hj))
            exact ev_ixL (ev_var rfl) (ev_var rfl) (.inl (.inl (x9 _ _ hr8))) (rowV_at _ hm)
          · rw [upd_ne npl]
            exact x9 _ _ (x8 _ _ hl7)
          · rw [upd_same, rowV_put _ _ hb]
          · refine R.step io.po hb hc.2 (fun p2 hp2 pp lp => ?_) fun c2 hc2 => ?_
            · rcases pp with z | z
              · exact lin.notup hbi z lp
              · subst z
                exact hc.1 (io.po.anti b p2 hb ha lp hc.2)
            · rw [mem_take_succ hbi]
              exact ⟨fun z => by rcases z with (z | z) | z <;> simp [z], fun z => by rcases z with (z | z) | z <;> simp [z]⟩
        · refine ⟨_, r, rfl, x7.trans (ext_ex x8), T7.ext x8, x8 _ _ hl7, x8 _ _ hr7, ?_⟩
          by_cases e : b = a
          · subst e
            refine R.iff fun c2 _ => ?_
            rw [mem_take_succ hbi]
            exact ⟨fun z => by rcases z with (z | z) | z <;> simp [z], fun z => by rcases z with z | z <;> simp [z]⟩
          · have hl : le o a b = false := by
              rw [bne_iff_ne.mpr e, Bool.true_and] at hc
              exact hc
            refine R.skip hl fun c2 _ => ?_
            rw [mem_take_succ hbi]
            exact ⟨fun z => by rcases z with (z | z) | z <;> simp [z], fun z => by rcases z with (z | z) | z <;> simp [z]⟩
      · obtain ⟨y, r, rfl, x7, T7, hl7, hr7, R⟩ := hP
        refine s_retU (eu_tupleL (K := K) (ev_var rfl) (.inl (.inl hr7))) fun p4 H8 hp4 x8 h8 => q r p4 H8 (R.mu io.po ha fun b hb => .inl ?_) (x7.trans (ext_ex x8)) (T7.ext x8) h8
        rw [List.length_map, List.take_length]
        exact lin.perm.mem_iff.mpr (List.mem_range.mpr hb)
end
end Sw
set_option Elab.async false
set_option linter.all false
set_option maxRecDepth 100000
set_option maxHeartbeats 4000000
/-! signs_table, sum_ahead, sum_back -/
namespace Sw
open PySem PySem.Spec PyProof.Rows L2 LamX NdefX SwK Evl
theorem extN_laid {H H' : Hp} {a : Addr} {o : HO} (x : ExtN H H') (e : H' a = none) : ExtN H (upd H' a o) := fun b u q n => (upd_ne (ne_of_none (x b u q n) e)).trans (x b u q n)
/-- a comprehension over a range, turn by turn -/
theorem lc_turns {σ : L2.St} {H : Hp} {ta : TA} {te : TE} {j : Nat} {vs : List Nat} {n : Nat} {Q : VK} (h : EvA ta σ H [.int (n : Int)]) (hn : n ≤ 1000) (hw : ∀ x, wipe ((wipe σ vs).set j (some x)) vs = wipe σ vs) (Pv : Addr → Nat → Hp → Prop)
    (h0 : ∀ D H1, H D = none → H1 D = none → Evl.Ex H H1 → Pv D 0 (upd H1 D (.lst [])))
    (hs : ∀ (D : Addr) (i : Nat) (H' : Hp), H D = none → i < n → Pv D i H' → te ((wipe σ vs).set j (some (nv i))) H' fun y H4 => ∃ acc, H4 D = some (.lst acc) ∧ acc.length < 1000 ∧ Pv D (i + 1) (upd H4 D (.lst (acc ++ [y]))))
    (hm : ∀ σ H Q Q', (∀ v H', Q v H' → Q' v H') → te σ H Q → te σ H Q')
    (hd : ∀ D H', H D = none → Pv D n H' → Q (.ref D) H') : tLc (iRng1 ta) (gName j) tYes te vs σ H Q := by
  have sl : sizeLine = 16777216 := sizeLine_eq
  refine h H (Evl.Ex.refl H) _ fun H1 x1 => ⟨(n : Int), rfl, by omega, by omega, fun D hD => ?_⟩
  have hD0 : H D = none := fresh_back x1 hD
  rw [Int.toNat_natCast]
  refine lc_range (lo := 0) (n := n) (Pv D) (h0 D H1 hD0 hD x1) (fun i H' hi hP => ⟨hw _, ?_⟩) (fun H' hP => hd D H' hD0 hP)
  show te _ _ _
  rw [Int.zero_add]
  exact hm _ _ _ _ (fun v H4 ⟨acc, e1, e2, e3⟩ => ⟨acc, e1, by omega, e3⟩) (hs D i H' hD0 hi hP)
/-- the rows stand as tuples -/
def MatU (n : Nat) (H : Hp) (as : List Addr) (M : Nat → Nat → Int) : Prop := as.length = n ∧ ∀ (i : Nat) (x : Addr), as[i]? = some x → H x = some (.tup (rowV n (M i)))
theorem MatU.at {n i : Nat} {H : Hp} {as : List Addr} {M : Nat → Nat → Int} (m : MatU n H as M) (h : i < n) : ∃ x, (as.map V.ref)[i]? = some (.ref x) ∧ H x = some (.tup (rowV n (M i))) := by
  have hi : i < as.length := by
    rw [m.1]
    exact h
  exact ⟨as[i], by rw [List.getElem?_map, List.getElem?_eq_getElem hi] <;> rfl, m.2 i _ (List.getElem?_eq_getElem hi)⟩
def spSignsTable (K : PySem.W.Frag) (T : List (Addr × Str)) : Sp := fun vs H Q _ => ∃ (p : Addr) (o : List Nat), vs = [.ref p] ∧ SqT K H p (o.map nv) ∧ IsOrd o ∧ Tabs T H ∧
  ∀ (M : Nat → Nat → Int) (p2 : Addr) (H2 : Hp) (as : List Addr), IsMu o.length (le o) M → ExtN H H2 → Tabs T H2 → H2 p2 = some (.tup (as.map V.ref)) → MatU o.length H2 as M → Q (.ref p2) H2
/-- the signs from x to all that are led to y; to y from all that are led back to x -/
def ahead (n : Nat) (M : Nat → Nat → Int) (u : List Nat) (x y : Nat) : Int := S n fun a => if u.getD a 0 = y then M x a else 0
def back (m : Nat) (M : Nat → Nat → Int) (d : List Nat) (x y : Nat) : Int := S m fun b => if d.getD b 0 = x then M b y else 0
def spAhead (K : PySem.W.Frag) (T : List (Addr × Str)) : Sp := fun vs H Q _ => ∃ (p1 p3 : Addr) (v2 : V) (o u : List Nat) (x y : Nat), vs = [.ref p1, v2, .ref p3, nv x, nv y] ∧ SqT K H p1 (o.map nv) ∧ SqL K H p3 (u.map nv) ∧ IsOrd o ∧ u.length = o.length ∧ x < o.length ∧ Tabs T H ∧
  ∀ (M : Nat → Nat → Int) (H2 : Hp), IsMu o.length (le o) M → ExtN H H2 → Tabs T H2 → Q (.int (ahead o.length M u x y)) H2
def spSumBack (K : PySem.W.Frag) (T : List (Addr × Str)) : Sp := fun vs H Q _ => ∃ (p2 p3 : Addr) (v1 : V) (q d : List Nat) (x y : Nat), vs = [v1, .ref p2, .ref p3, nv x, nv y] ∧ SqT K H p2 (q.map nv) ∧ SqL K H p3 (d.map nv) ∧ IsOrd q ∧ d.length = q.length ∧ y < q.length ∧ Tabs T H ∧
  ∀ (M : Nat → Nat → Int) (H2 : Hp), IsMu q.length (le q) M → ExtN H H2 → Tabs T H2 → Q (.int (back q.length M d x y)) H2
theorem st_retT {te : TE} {D : Ends} {σ : L2.St} {H : Hp} (h : te σ H D.rt) : tRet te D σ H := h
abbrev s_signs_table : Stmt := topS 9
theorem sc_signs_table : FnScope ["order", "a"] ["order"] (defScope s_signs_table) := ⟨rfl, rfl, rfl, by decide +kernel, rfl, by decide +kernel, by decide +kernel⟩
abbrev s_sum_ahead : Stmt := topS 12
theorem sc_sum_ahead : FnScope ["one", "other", "up", "x", "y", "signs", "a"] ["one", "other", "up", "x", "y"] (defScope s_sum_ahead) := ⟨rfl, rfl, rfl, by decide +kernel, rfl, by decide +kernel, by decide +kernel⟩
abbrev s_sum_back : Stmt := topS 13
theorem sc_sum_back : FnScope ["one", "other", "down", "x", "y", "signs", "b"] ["one", "other", "down", "x", "y"] (defScope s_sum_back) := ⟨rfl, rfl, rfl, by decide +kernel, rfl, by decide +kernel, by decide +kernel⟩
section
variable {P : Program} {w : World} {K : PySem.W.Frag} {mg : Str → Option Value} {base : Heap} {c : Addr} {T : List (Addr × Str)}
theorem ok_signs_table (B : Bt mg) (h_signs_from : Has P w K mg base "signs_from" 6 ["order", "a"] (spSignsFrom K T)) (D : Df K mg "signs_table" s_signs_table c) : Has P w K mg base "signs_table" 7 ["order"] (spSignsTable K T) := by
  refine D.has sc_signs_table (fun vs H Q E h => ?_) (fun _ _ _ _ _ _ us hl => match us, hl with | [_], _ => rfl) (fun f A outer s H vs Q E hr h => ?_)
  · obtain ⟨p, o, rfl, _⟩ := h
    rfl
  · obtain ⟨p, o, rfl, ho, io, hT, q⟩ := h
    have n7 := io.top
    have sl : sizeLine = 16777216 := sizeLine_eq
    refine ⟨_, (pss_one (ps_ret (tupleK K rfl (by rfl) B.tuple_ (pe_lc (own := [("a", 1)]) (g := gName 1) rfl sc_signs_table.nd (pi_range1 (by rfl) B.range_ (pa_cons (pe_callB (lenK K rfl) (by rfl) B.len_ boot_len (pa_cons (pv 0) pa_nil)) pa_nil)) (blkOk_by (by kernel_rfl)) (fun _ _ _ _ _ => pg_name (i := 1) sc_signs_table.nd rfl (.inl rfl)) (fun _ _ _ _ _ => pts_nil) (fun _ _ _ _ _ => (pe_has h_signs_from (hr.mono (by decide)) (by rfl) (pa_cons (pv 0) (pa_cons (pv 1) pa_nil))))))))
      , ?_⟩
    refine st_retT (lc_turns (n := o.length) (ea_cons (ev_is (ev_lenT (ev_var rfl) ho) (by rw [List.length_map])) ea_nil) (by omega) (fun x => rfl)
      (fun Dl i H' => ∃ (as : List Addr) (M : Nat → Nat → Int), ExtN H H' ∧ Tabs T H' ∧ H' Dl = some (.lst (as.map V.ref)) ∧ as.length = i ∧ (∀ (k : Nat) (x : Addr), as[k]? = some x → H' x = some (.tup (rowV o.length (M k)))) ∧ ∀ k, k < i → ∀ b, b < o.length → dn o.length (le o) (M k) b = dl k b)
      (fun Dl H1 hD0 hD x1 => ⟨[], fun _ _ => 0, ext_ex (x1.trans (Ex.new hD)), tabs_new (hT.ext x1) hD, upd_same, rfl, fun k x e => by simp at e, fun k hk => absurd hk (Nat.not_lt_zero _)⟩) (fun Dl i H' hD0 hi hP => ?_) (fun σ H Q Q' k h => ?_) (fun Dl H' hD0 hP => ?_))
    · obtain ⟨as, M, x2, T2, hd, al, at_, dm⟩ := hP
      refine ⟨.ref p, rfl, nv i, rfl, p, o, i, rfl, extT x2 ho, io, hi, T2, fun r p2 H3 hrw x3 T3 h3 => ?_⟩
      have hd3 := ext_lst x3 hd
      refine ⟨as.map V.ref, hd3, by rw [List.length_map]; omega, as ++ [p2], setM M i r, extN_new (x2.trans x3) hD0, tabs_lst T3 hd3, by rw [upd_same, List.map_append]; rfl, by rw [List.length_append, al]; rfl, fun k x hx => ?_, fun k hk => ?_⟩
      · by_cases hk : k < as.length
        · rw [List.getElem?_append_left hk] at hx
          have h4 := ext_tup x3 (at_ k x hx)
          rw [setM_ne _ _ (by omega), upd_ne (ne_of h4 hd3 fun z => by cases z)]
          exact h4
        · rw [List.getElem?_append_right (by omega)] at hx
          have e0 : k - as.length = 0 := by
            have h1 := at_lt hx
            rw [List.length_singleton] at h1
            omega
          rw [e0] at hx
          obtain rfl : p2 = x := Option.some.inj hx
          have ek : k = i := by omega
          rw [ek, setM_same, upd_ne (ne_of h3 hd3 fun z => by cases z)]
          exact h3
      · by_cases e : k = i
        · rw [e, setM_same]
          exact hrw
        · rw [setM_ne _ _ e]
          exact dm k (by omega)
    · obtain ⟨v1, e1, v2, e2, p', o', a', e3, e4, e5, e6, e7, e8⟩ := h
      exact ⟨v1, e1, v2, e2, p', o', a', e3, e4, e5, e6, e7, fun r p2 H2 a b c d => k _ _ (e8 r p2 H2 a b c d)⟩
    · obtain ⟨as, M, x2, T2, hd, al, at_, dm⟩ := hP
      refine .inl ⟨Dl, _, rfl, .inl (.inl hd), fun p4 hp4 => ?_⟩
      refine q M p4 _ as dm (extN_laid x2 hp4) (tabs_new T2 hp4) upd_same ⟨al, fun k x hx => ?_⟩
      have h4 := at_ k x hx
      rw [upd_ne (ne_of_none h4 hp4)]
      exact h4
theorem ok_sum_ahead (B : Bt mg) (h_signs_table : Has P w K mg base "signs_table" 7 ["order"] (spSignsTable K T)) (D : Df K mg "sum_ahead" s_sum_ahead c) : Has P w K mg base "sum_ahead" 8 ["one", "other", "up", "x", "y"] (spAhead K T) := by
  refine D.has sc_sum_ahead (fun vs H Q E h => ?_) (fun _ _ _ _ _ _ us hl => match us, hl with | [_, _, _, _, _], _ => rfl) (fun f A outer s H vs Q E hr h => ?_)
  · obtain ⟨p1, p3, v2, o, u, x, y, rfl, _⟩ := h
    rfl
  · obtain ⟨p1, p3, v2, o, u, x, y, rfl, ho, hu, io, ul, hx, hT, q⟩ := h
    have n7 := io.top
    refine ⟨_, (pss_cons (ps_set (i := 5) sc_sum_ahead.nd rfl (.inr rfl) (pe_has h_signs_table (hr.mono (by decide)) (by rfl) (pa_cons (pv 0) pa_nil)))
  (pss_one (ps_ret (pe_callB (sumK K rfl rfl) (by rfl) B.sum_ bb_sum (pa_cons (pe_lc (own := [("a", 6)]) (g := gName 6) rfl sc_sum_ahead.nd (pi_range1 (by rfl) B.range_ (pa_cons (pe_callB (lenK K rfl) (by rfl) B.len_ boot_len (pa_cons (pv 0) pa_nil)) pa_nil)) (blkOk_by (by kernel_rfl)) (fun _ _ _ _ _ => pg_name (i := 6) sc_sum_ahead.nd rfl (.inl rfl)) (fun _ _ _ _ _ => (pts_one (pt_cmpR op_eq (pe_ix (ixL K rfl) (pv 2) (pv 6) (fun _ _ => rfl)) (pv 4) (nomark _)))) (fun _ _ _ _ _ => (pe_ix (ixT K rfl) (pe_ix (ixT K rfl) (pv 5) (pv 3) (fun _ _ => rfl)) (pv 6) (fun _ _ => rfl)))) pa_nil)))))
      , ?_⟩
    refine q_asgT ⟨.ref p1, rfl, p1, o, rfl, ho, io, hT, fun M ps H1 as mu x1 T1 hs mt => ?_⟩
    refine s_ret (v := .int (ahead o.length M u x y)) (ev_is (ev_sum (K := K) (ns := ((List.range o.length).filter fun a => u.getD a 0 == y).map (M x)) ?_) ?_) fun H2 x2 => q M H2 mu (x1.trans (ext_ex x2)) (T1.ext x2)
    · rw [← rowV_sum]
      obtain ⟨px, px1, px2⟩ := mt.at hx
      refine el_lcR1 (n := (o.length : Int)) (fun a => u.getD a 0 == y) (fun a => V.int (M x a)) (ea_cons (ev_is (ev_lenT (ev_var rfl) (extT x1 ho)) (by rw [List.length_map])) ea_nil) (by omega) (fun x => rfl) (fun a H2 x2 ha => ?_) (fun a H2 x2 ha _ => ?_)
      · exact et_eqN (ev_ixL (ev_var rfl) (ev_var rfl) (ex_l x2 (extL x1 hu)) (getN (by omega))) (ev_var rfl)
      · exact ev_ixT (ev_ixT (ev_var rfl) (ev_var rfl) (.inl (.inl (x2 _ _ hs))) px1) (ev_var rfl) (.inl (.inl (x2 _ _ px2))) (rowV_at _ (by omega))
    · rw [sum_range]
      unfold ahead
      congr 1
      refine S_congr fun a _ => ?_
      by_cases e : u.getD a 0 = y
      · rw [if_pos e, if_pos (beq_iff_eq.mpr e)]
      · rw [if_neg e, if_neg fun z => e (beq_iff_eq.mp z)]
theorem ok_sum_back (B : Bt mg) (h_signs_table : Has P w K mg base "signs_table" 7 ["order"] (spSignsTable K T)) (D : Df K mg "sum_back" s_sum_back c) : Has P w K mg base "sum_back" 8 ["one", "other", "down", "x", "y"] (spSumBack K T) := by
  refine D.has sc_sum_back (fun vs H Q E h => ?_) (fun _ _ _ _ _ _ us hl => match us, hl with | [_, _, _, _, _], _ => rfl) (fun f A outer s H vs Q E hr h => ?_)
  · obtain ⟨p1, p3, v2, o, u, x, y, rfl, _⟩ := h
    rfl
  · obtain ⟨p2, p3, v1, o, d, x, y, rfl, ho, hu, io, ul, hy, hT, q⟩ := h
    have n7 := io.top
    refine ⟨_, (pss_cons (ps_set (i := 5) sc_sum_back.nd rfl (.inr rfl) (pe_has h_signs_table (hr.mono (by decide)) (by rfl) (pa_cons (pv 1) pa_nil)))
  (pss_one (ps_ret (pe_callB (sumK K rfl rfl) (by rfl) B.sum_ bb_sum (pa_cons (pe_lc (own := [("b", 6)]) (g := gName 6) rfl sc_sum_back.nd (pi_range1 (by rfl) B.range_ (pa_cons (pe_callB (lenK K rfl) (by rfl) B.len_ boot_len (pa_cons (pv 1) pa_nil)) pa_nil)) (blkOk_by (by kernel_rfl)) (fun _ _ _ _ _ => pg_name (i := 6) sc_sum_back.nd rfl (.inl rfl)) (fun _ _ _ _ _ => (pts_one (pt_cmpR op_eq (pe_ix (ixL K rfl) (pv 2) (pv 6) (fun _ _ => rfl)) (pv 3) (nomark _)))) (fun _ _ _ _ _ => (pe_ix (ixT K rfl) (pe_ix (ixT K rfl) (pv 5) (pv 6) (fun _ _ => rfl)) (pv 4) (fun _ _ => rfl)))) pa_nil)))))
      , ?_⟩
    refine q_asgT ⟨.ref p2, rfl, p2, o, rfl, ho, io, hT, fun M ps H1 as mu x1 T1 hs mt => ?_⟩
    refine s_ret (v := .int (back o.length M d x y)) (ev_is (ev_sum (K := K) (ns := ((List.range o.length).filter fun b => d.getD b 0 == x).map fun b => M b y) ?_) ?_) fun H2 x2 => q M H2 mu (x1.trans (ext_ex x2)) (T1.ext x2)
    · rw [← rowV_sum]
      refine el_lcR1 (n := (o.length : Int)) (fun b => d.getD b 0 == x) (fun b => V.int (M b y)) (ea_cons (ev_is (ev_lenT (ev_var rfl) (extT x1 ho)) (by rw [List.length_map])) ea_nil) (by omega) (fun x => rfl) (fun b H2 x2 hb => ?_) (fun b H2 x2 hb _ => ?_)
      · exact et_eqN (ev_ixL (ev_var rfl) (ev_var rfl) (ex_l x2 (extL x1 hu)) (getN (by omega))) (ev_var rfl)
      · obtain ⟨px, px1, px2⟩ := mt.at (i := b) (by omega)
        exact ev_ixT (ev_ixT (ev_var rfl) (ev_var rfl) (.inl (.inl (x2 _ _ hs))) px1) (ev_var rfl) (.inl (.inl (x2 _ _ px2))) (rowV_at _ hy)
    · rw [sum_range (fun b => M b y) (fun b => d.getD b 0 == x)]
      unfold back
      congr 1
      refine S_congr fun b _ => ?_
      by_cases e : d.getD b 0 = x
      · rw [if_pos e, if_pos (beq_iff_eq.mpr e)]
      · rw [if_neg e, if_neg fun z => e (beq_iff_eq.mp z)]
end
end Sw
set_option Elab.async false
set_option linter.all false
set_option maxRecDepth 100000
set_option maxHeartbeats 4000000
/-! _law_by_size, _law_way, _law_closing -/
namespace Sw
open PySem PySem.Spec PyProof.Rows L2 LamX NdefX SwK Evl
def spBySize (K : PySem.W.Frag) (T : List (Addr × Str)) : Sp := fun vs H Q _ => ∃ (p : Addr) (o : List Nat), vs = [.ref p] ∧ SqT K H p (o.map nv) ∧ IsOrd o ∧ Tabs T H ∧
  ∀ (L : List Nat) (p2 : Addr) (H2 : Hp), Lin o L → ExtN H H2 → Tabs T H2 → (∀ b u, H b = some u → (∀ ps, u ≠ .tbl ps) → b ≠ p2) → H2 p2 = some (.lst (L.map nv)) → Q (.ref p2) H2
/-- a way -/
structure IsWay (o q u : List Nat) : Prop where
  len : u.length = o.length
  lt : ∀ a, a < o.length → u.getD a 0 < q.length
  mono : ∀ a b, a < o.length → b < o.length → le o a b = true → le q (u.getD a 0) (u.getD b 0) = true
def spWay (K : PySem.W.Frag) (T : List (Addr × Str)) : Sp := fun vs H Q _ => ∃ (p1 p2 : Addr) (o q : List Nat) (a : Int), vs = [.ref p1, .ref p2, .int a] ∧ SqT K H p1 (o.map nv) ∧ SqT K H p2 (q.map nv) ∧ IsOrd o ∧ IsOrd q ∧ Tabs T H ∧
  ∀ (u : List Nat) (p3 : Addr) (H2 : Hp), IsWay o q u → ExtN H H2 → Tabs T H2 → H2 p3 = some (.lst (u.map nv)) → Q (.ref p3) H2
/-- a closing -/
structure IsClos (o r : List Nat) : Prop where
  len : r.length = o.length
  lt : ∀ t, t < o.length → r.getD t 0 < o.length
  up : ∀ t, t < o.length → le o t (r.getD t 0) = true
  once : ∀ t, t < o.length → r.getD (r.getD t 0) 0 = r.getD t 0
  least : ∀ t c, t < o.length → c < o.length → r.getD c 0 = c → le o t c = true → le o (r.getD t 0) c = true
def spClosing (K : PySem.W.Frag) (T : List (Addr × Str)) : Sp := fun vs H Q _ => ∃ (p1 : Addr) (o : List Nat) (a : Int), vs = [.ref p1, .int a] ∧ SqT K H p1 (o.map nv) ∧ IsOrd o ∧ Tabs T H ∧
  ∀ (r : List Nat) (p3 : Addr) (H2 : Hp), IsClos o r → ExtN H H2 → Tabs T H2 → H2 p3 = some (.lst (r.map nv)) → Q (.ref p3) H2
theorem st_retT' {te : TE} {D : Ends} {σ : L2.St} {H : Hp} (h : te σ H D.rt) : tRet te D σ H := h
abbrev s_law_by_size : Stmt := topS 23
theorem sc_law_by_size : FnScope ["_law_order_here", "_law_many", "_law_sizes", "_law_k", "_law_b"] ["_law_order_here"] (defScope s_law_by_size) := ⟨rfl, rfl, rfl, by decide +kernel, rfl, by decide +kernel, by decide +kernel⟩
abbrev s_law_way : Stmt := topS 24
theorem sc_law_way : FnScope ["_law_one", "_law_other", "_law_cell_here", "_law_row", "_law_rest", "_law_b", "_law_under", "_law_a", "_law_fit", "_law_t", "_law_s"] ["_law_one", "_law_other", "_law_cell_here"] (defScope s_law_way) := ⟨rfl, rfl, rfl, by decide +kernel, rfl, by decide +kernel, by decide +kernel⟩
abbrev s_law_closing : Stmt := topS 26
theorem sc_law_closing : FnScope ["_law_order_here", "_law_cell_here", "_law_closed", "_law_row", "_law_rest", "_law_thing", "_law_led", "_law_one"] ["_law_order_here", "_law_cell_here"] (defScope s_law_closing) := ⟨rfl, rfl, rfl, by decide +kernel, rfl, by decide +kernel, by decide +kernel⟩
theorem ints_lay : ∀ l : List Nat, PyData.canLayAll0 (l.map fun t : Nat => PyData.int (t : Int)) = true
  | [] => rfl
  | x :: l => by
    rw [List.map_cons]
    unfold PyData.canLayAll0
    rw [ints_lay l]
    rfl
theorem ints_depth : ∀ l : List Nat, PyData.depthAll (l.map fun t : Nat => PyData.int (t : Int)) ≤ 1
  | [] => Nat.zero_le _
  | x :: l => by
    rw [List.map_cons]
    unfold PyData.depthAll
    have := ints_depth l
    unfold PyData.depth
    omega
theorem ints_shaped (l : List Nat) : SeqAt.shaped (.list (l.map fun t : Nat => PyData.int (t : Int))) = true := by
  unfold SeqAt.shaped
  rw [Bool.and_eq_true]
  refine ⟨?_, decide_eq_true ?_⟩
  · unfold PyData.canLay0
    exact ints_lay l
  · unfold PyData.depth
    have := ints_depth l
    omega
theorem ints_dp {K : PySem.W.Frag} {H : Hp} : ∀ l : List Nat, DpAll K H (l.map nv) (l.map fun t : Nat => PyData.int (t : Int))
  | [] => .nil
  | x :: l => .cons (.int _) (ints_dp l)
section
variable {K : PySem.W.Frag} {σ : L2.St} {H : Hp} {ta tb te : TE}
/-- xs == [] -/
theorem ev_isNil {p : Addr} {l : List Nat} (ha : Ev ta σ H (.ref p)) (h : SqL K H p (l.map nv)) : Ev (tOp (rEqD K) ta (tLst tNil)) σ H (.bl l.isEmpty) := by
  intro H1 x1 Q k
  refine ha H1 x1 _ fun H2 x2 => el_lst ea_nil (by decide) H2 (x1.trans x2) _ fun p3 H3 hp3 x3 h3 => ?_
  refine ⟨.list (l.map fun t : Nat => PyData.int (t : Int)), .list [], .lst (ex_l (x1.trans (x2.trans x3)) h) (ints_dp l), .lst (.inl (.inl h3)) .nil, ints_shaped l, by decide +kernel, ?_⟩
  have e : PyData.eqv (.list (l.map fun t : Nat => PyData.int (t : Int))) (.list []) = l.isEmpty := by
    cases l with
    | nil => rfl
    | cons x l => rfl
  rw [e]
  exact k H3 (x2.trans x3)
end
section
variable {P : Program} {w : World} {K : PySem.W.Frag} {mg : Str → Option Value} {base : Heap} {c Pc : Addr} {T : List (Addr × Str)}
theorem ok_law_by_size (B : Bt mg) (TB : TabB base mg c Pc) (hmT : (Pc, ("_law_by_size" : Str) ++ ".<locals>." ++ "<lambda>") ∈ T) (hu : ∀ p ∈ T, p.1 = Pc → p.2 = ("_law_by_size" : Str) ++ ".<locals>." ++ "<lambda>")
    (D : Df K mg "_law_by_size" s_law_by_size c) : Has P w K mg base "_law_by_size" 4 ["_law_order_here"] (spBySize K T) := by
  refine D.has sc_law_by_size (fun vs H Q E h => ?_) (fun _ _ _ _ _ _ us hl => match us, hl with | [_], _ => rfl) (fun f A outer s H vs Q E hr h => ?_)
  · obtain ⟨p, o, rfl, _⟩ := h
    rfl
  · obtain ⟨p, o, rfl, ho, io, hT, q⟩ := h
    have n7 := io.top
    refine ⟨_, (pss_cons (ps_set (i := 1) sc_law_by_size.nd rfl (.inr rfl) (pe_callB (lenK K rfl) (by rfl) B.len_ boot_len (pa_cons (pv 0) pa_nil)))
  (pss_cons (ps_set (i := 2) sc_law_by_size.nd rfl (.inr rfl) (pe_lc (own := [("_law_b", 4)]) (g := gName 4) rfl sc_law_by_size.nd (pi_range1 (by rfl) B.range_ (pa_cons (pv 1) pa_nil)) (blkOk_by (by kernel_rfl)) (fun _ _ _ _ _ => pg_name (i := 4) sc_law_by_size.nd rfl (.inr rfl) (.inl rfl)) (fun _ _ _ _ _ => pts_nil) (fun _ _ _ _ _ => (pe_callB (sumK K rfl rfl) (by rfl) B.sum_ bb_sum (pa_cons (pe_lc (own := [("_law_k", 3)]) (g := gName 3) rfl sc_law_by_size.nd (pi_range1 (by rfl) B.range_ (pa_cons (pv 1) pa_nil)) (blkOk_by (by kernel_rfl)) (fun _ _ _ _ _ => pg_name (i := 3) sc_law_by_size.nd rfl (.inl rfl)) (fun _ _ _ _ _ => pts_nil) (fun _ _ _ _ _ => (pe_op op_and (pe_op op_shr (pe_ix (ixT K rfl) (pv 0) (pv 4) (fun _ _ => rfl)) (pv 3)) pe_int))) pa_nil)))))
  (pss_one (ps_ret (pe_sortLam (by rfl) B.sorted_ (pe_listRg rfl (by rfl) B.list_ (prg_1 (by rfl) B.range_ (pv 1))) (T := T) (c := c) (P := Pc) (N := ["_law_b", "_law_sizes"]) (fr := ["_law_sizes"]) (js := [2]) (k := 0) (a := "_law_b") TB rfl hmT hu rfl (nscope_by (by decide +kernel)) (by kernel_rfl) rfl (fun _ _ _ _ _ _ => rfl) hr (fun A q cl c' f s H hr => pe_tup (pa_cons (pe_ix (ixL K rfl) (pv 1) (pv 0) (fun _ _ => rfl)) (pa_cons (pv 0) pa_nil))))))))
      , ?_⟩
    refine q_asg (v := nv o.length) (ev_is (ev_lenT (ev_var rfl) ho) (by rw [List.length_map])) fun H1 x1 => ?_
    have ho1 := ex_t x1 ho
    refine q_asgL (xs := (List.range o.length).map fun b => V.int (size o.length (le o) b)) ?_ fun pz H2 hpz x2 hz => ?_
    · rw [← given_all]
      refine el_lcR1 (n := (o.length : Int)) (fun _ => true) (fun b => V.int (size o.length (le o) b)) (ea_cons (ev_var rfl) ea_nil) (by omega) (fun x => rfl) (fun b H2 x2 hb => et_yes) (fun b H2 x2 hb _ => ?_)
      refine ev_is (ev_sum (K := K) (ns := ((List.range o.length).filter fun _ => true).map fun k => b1 (le o k b)) ?_) ?_
      · rw [← rowV_sum]
        refine el_lcR1 (n := (o.length : Int)) (fun _ => true) (fun k => V.int (b1 (le o k b))) (ea_cons (ev_var rfl) ea_nil) (by omega) (fun x => rfl) (fun k H3 x3 hk => et_yes) (fun k H3 x3 hk _ => ?_)
        exact ev_bit (ev_ixT (ev_var rfl) (ev_var rfl) (ex_t (x2.trans x3) ho1) (getN (by omega))) (ev_var rfl)
      · rw [sum_range (fun k => b1 (le o k b)) (fun _ => true)]
        rfl
    · have T2 : Tabs T H2 := hT.ext (x1.trans x2)
      refine st_retT' ⟨_, rfl, (o.length : Int), rfl, RgOk.of_le (by omega) (by omega) (by omega) (by omega), fun pg hpg => ?_⟩
      have T3 : Tabs T (upd H2 pg (.lst (rgV 0 (o.length : Int)))) := tabs_new T2 hpg
      have x3 : Evl.Ex H2 (upd H2 pg (.lst (rgV 0 (o.length : Int)))) := Ex.new hpg
      have hg : upd H2 pg (.lst (rgV 0 (o.length : Int))) pg = some (.lst (rgV 0 (o.length : Int))) := upd_same
      generalize upd H2 pg (.lst (rgV 0 (o.length : Int))) = H3 at T3 x3 hg ⊢
      refine ⟨(List.range o.length).map fun k : Nat => (k : Int), KPair (fun n => size o.length (le o) n.toNat) (fun n => n), _, .inl ⟨pg, rfl, .inl (.inl (by rw [rg_nat]; exact hg))⟩, by rw [List.length_map, List.length_range]; omega, keyPair _ _, T3, fun n hn H4 x4 T4 => ?_, fun ns' pl H4 x4 T4 fpl hl hp hw => ?_⟩
      · obtain ⟨b, hb, rfl⟩ := List.mem_map.mp hn
        have hb := List.mem_range.mp hb
        have hz4 := ext_lst x4 (x3 _ _ hz)
        refine ev_ixL (K := K) (p := pz) (j := b) (v := .int (size o.length (le o) b)) (ev_var rfl) (ev_var rfl) (.inl (.inl hz4)) (by rw [List.getElem?_map, List.getElem?_range hb]; rfl) H4 (Evl.Ex.refl _) _ fun H5 x5 => ⟨nv b, rfl, (by show 2 ≤ sizeLine; decide), fun pt hpt => ⟨ext_ex (x5.trans (Ex.new hpt)), tabs_new (T4.ext x5) hpt, pt, rfl, ?_⟩⟩
        rw [upd_same]
        show some (HO.tup [V.int (size o.length (le o) b), nv b]) = some (HO.tup [V.int (size o.length (le o) (Int.toNat (b : Int))), V.int (b : Int)])
        rw [Int.toNat_natCast]
      · obtain ⟨L, rfl, pL⟩ := perm_ints hp
        have lin : Lin o L := by
          refine Lin.of io pL ?_
          rw [List.pairwise_map] at hw
          refine List.Pairwise.imp (fun {x y} z => ?_) hw
          have z' := SrtO.lexB_no.mp z
          intro q
          refine z' (.inl ?_)
          show size o.length (le o) (Int.toNat (y : Int)) < size o.length (le o) (Int.toNat (x : Int))
          rw [Int.toNat_natCast, Int.toNat_natCast]
          exact q
        refine q L pl H4 lin ((ext_ex (x1.trans (x2.trans x3))).trans x4) T4 (fun b u e n => fpl b u ((x1.trans (x2.trans x3)) _ _ e) n) ?_
        rw [hl, List.map_map]
        rfl
/-- what the chosen row holds when the things of L up to i are done -/
structure WayI (o q L : List Nat) (i : Nat) (rl : List (Option Nat)) : Prop where
  len : rl.length = o.length
  got : ∀ b ∈ L.take i, ∃ t, rl.getD b none = some t ∧ t < q.length
  mono : ∀ a b t s, a ∈ L.take i → b ∈ L.take i → rl.getD a none = some t → rl.getD b none = some s → le o a b = true → le q t s = true
theorem getO {l : List (Option Nat)} {i : Nat} (h : i < l.length) : (l.map ov)[i]? = some (ov (l.getD i none)) := by
  rw [List.getElem?_map, List.getD_eq_getElem?_getD, List.getElem?_eq_getElem h]
  rfl
theorem setO_same {l : List (Option Nat)} {b : Nat} {x : Option Nat} (h : b < l.length) : (l.set b x).getD b none = x := by
  rw [List.getD_eq_getElem?_getD, List.getElem?_set_self h]
  rfl
theorem setO_ne {l : List (Option Nat)} {a b : Nat} {x : Option Nat} (h : b ≠ a) : (l.set b x).getD a none = l.getD a none := by
  rw [List.getD_eq_getElem?_getD, List.getElem?_set_ne h, ← List.getD_eq_getElem?_getD]
theorem setN_same {l : List Nat} {b x : Nat} (h : b < l.length) : (l.set b x).getD b 0 = x := by
  rw [List.getD_eq_getElem?_getD, List.getElem?_set_self h]
  rfl
theorem setN_ne {l : List Nat} {a b x : Nat} (h : b ≠ a) : (l.set b x).getD a 0 = l.getD a 0 := by
  rw [List.getD_eq_getElem?_getD, List.getElem?_set_ne h, ← List.getD_eq_getElem?_getD]
theorem WayI.step {o q L : List Nat} {i b t : Nat} {rl : List (Option Nat)} (io : IsOrd o) (iq : IsOrd q) (lin : Lin o L) (W : WayI o q L i rl) (hb : L[i]? = some b) (ht : t < q.length)
    (fit : ∀ a, a < o.length → a ≠ b → le o a b = true → le q ((rl.getD a none).getD 0) t = true) : WayI o q L (i + 1) (rl.set b (some t)) := by
  have hbl := lin.lt hb
  have hbr : b < rl.length := by rw [W.len]; exact hbl
  have nb : ∀ x ∈ L.take i, b ≠ x := fun x hx z => lin.fresh hb (z ▸ hx)
  refine ⟨by rw [List.length_set, W.len], fun x hx => ?_, fun a x u s ha hx hu hs hl => ?_⟩
  · rcases (mem_take_succ hb).mp hx with hx | hx
    · rw [setO_ne (nb x hx)]
      exact W.got x hx
    · rw [hx, setO_same hbr]
      exact ⟨t, rfl, ht⟩
  · rcases (mem_take_succ hb).mp ha with ha | ha
    · rw [setO_ne (nb a ha)] at hu
      rcases (mem_take_succ hb).mp hx with hx | hx
      · rw [setO_ne (nb x hx)] at hs
        exact W.mono a x u s ha hx hu hs hl
      · rw [hx, setO_same hbr] at hs
        rw [hx] at hl
        obtain rfl := Option.some.inj hs
        have hal := List.mem_range.mp (lin.perm.mem_iff.mp (List.mem_of_mem_take ha))
        have f := fit a hal (fun z => nb a ha z.symm) hl
        rw [hu] at f
        exact f
    · rw [ha] at hl
      rcases (mem_take_succ hb).mp hx with hx | hx
      · exact absurd (lin.notup hb hx hl) id
      · rw [ha, setO_same hbr] at hu
        rw [hx, setO_same hbr] at hs
        obtain rfl := Option.some.inj hu
        obtain rfl := Option.some.inj hs
        exact iq.po.refl _ ht
theorem WayI.way {o q L : List Nat} {rl : List (Option Nat)} (lin : Lin o L) (W : WayI o q L L.length rl) : IsWay o q (rl.map fun x => x.getD 0) ∧ rl.map ov = (rl.map fun x => x.getD 0).map nv := by
  have all : ∀ a, a < o.length → a ∈ L.take L.length := fun a ha => by
    rw [List.take_length]
    exact lin.perm.mem_iff.mpr (List.mem_range.mpr ha)
  have at_ : ∀ a, a < o.length → (rl.map fun x => x.getD 0).getD a 0 = (rl.getD a none).getD 0 := fun a ha => by
    have h : a < rl.length := by rw [W.len]; exact ha
    rw [List.getD_eq_getElem?_getD, List.getElem?_map, List.getElem?_eq_getElem h, List.getD_eq_getElem?_getD, List.getElem?_eq_getElem h]
    rfl
  refine ⟨⟨by rw [List.length_map]; exact W.len, fun a ha => ?_, fun a b ha hb hl => ?_⟩, ?_⟩
  · obtain ⟨t, h1, h2⟩ := W.got a (all a ha)
    rw [at_ a ha, h1]
    exact h2
  · obtain ⟨t, h1, _⟩ := W.got a (all a ha)
    obtain ⟨s, h2, _⟩ := W.got b (all b hb)
    rw [at_ a ha, at_ b hb, h1, h2]
    exact W.mono a b t s (all a ha) (all b hb) h1 h2 hl
  · rw [List.map_map]
    refine List.map_congr_left fun x hx => ?_
    obtain ⟨a, ha⟩ := List.mem_iff_getElem?.mp hx
    have hal := at_lt ha
    rw [W.len] at hal
    obtain ⟨t, h1, _⟩ := W.got a (all a hal)
    rw [List.getD_eq_getElem?_getD, ha] at h1
    have h1' : x = some t := h1
    rw [h1']
    rfl
theorem ok_law_way (B : Bt mg) (h_law_by_size : Has P w K mg base "_law_by_size" 4 ["_law_order_here"] (spBySize K T)) (h_law_turn : Has P w K mg base "_law_turn" 1 ["_law_cell_here", "_law_k"] spTurn)
    (D : Df K mg "_law_way" s_law_way c) : Has P w K mg base "_law_way" 5 ["_law_one", "_law_other", "_law_cell_here"] (spWay K T) := by
  refine D.has sc_law_way (fun vs H Q E h => ?_) (fun _ _ _ _ _ _ us hl => match us, hl with | [_, _, _], _ => rfl) (fun f A outer s H vs Q E hr h => ?_)
  · obtain ⟨p1, p2, o, q, a, rfl, _⟩ := h
    rfl
  · obtain ⟨p1, p2, o, q, cell, rfl, ho, hq, io, iq, hT, k⟩ := h
    have n7 := io.top
    have m7 := iq.top
    have m1 := iq.pos
    refine ⟨_, (pss_cons (ps_set (i := 3) sc_law_way.nd rfl (.inr rfl) (pe_op op_rep (pe_lst (pa_cons pe_non pa_nil)) (pe_callB (lenK K rfl) (by rfl) B.len_ boot_len (pa_cons (pv 0) pa_nil))))
  (pss_cons (ps_set (i := 4) sc_law_way.nd rfl (.inl rfl) (pv 2))
  (pss_cons (ps_for PassesOwn.never rfl (listK K rfl (pe_has h_law_by_size (hr.mono (by decide)) (by rfl) (pa_cons (pv 0) pa_nil))) (pg_name (i := 5) sc_law_way.nd rfl (.inr rfl))
    (pss_cons (ps_set (i := 4) sc_law_way.nd rfl (.inl rfl) (pe_has h_law_turn (hr.mono (by decide)) (by rfl) (pa_cons (pv 4) (pa_cons (pv 5) pa_nil))))
    (pss_cons (ps_set (i := 6) sc_law_way.nd rfl (.inr rfl) (pe_lc (own := [("_law_a", 7)]) (g := gName 7) rfl sc_law_way.nd (pi_range1 (by rfl) B.range_ (pa_cons (pe_callB (lenK K rfl) (by rfl) B.len_ boot_len (pa_cons (pv 0) pa_nil)) pa_nil)) (blkOk_by (by kernel_rfl)) (fun _ _ _ _ _ => pg_name (i := 7) sc_law_way.nd rfl (.inl rfl)) (fun _ _ _ _ _ => (pts_one (PW.pt (pw_and (pt_cmpR op_ne (pv 7) (pv 5) (nomark _)) (pw_and1 (pt_cmpR op_eq (pe_op op_and (pe_op op_shr (pe_ix (ixT K rfl) (pv 0) (pv 5) (fun _ _ => rfl)) (pv 7)) pe_int) pe_int (nomark _))))))) (fun _ _ _ _ _ => (pe_ix (ixL K rfl) (pv 3) (pv 7) (fun _ _ => rfl)))))
    (pss_cons (ps_setLc (i := 8) (own := [("_law_t", 9)]) (g := gName 9) rfl sc_law_way.nd rfl rfl (sw_true rfl rfl rfl (by decide +kernel)) (pi_range1 (by rfl) B.range_ (pa_cons (pe_callB (lenK K rfl) (by rfl) B.len_ boot_len (pa_cons (pv 1) pa_nil)) pa_nil)) (blkOk_by (by kernel_rfl)) (fun _ _ _ _ _ => pg_name (i := 9) sc_law_way.nd rfl (.inr rfl) (.inl rfl)) (fun _ _ _ _ _ => (pts_one (pt_val (pe_callB (allK K rfl rfl) (by rfl) B.all_ bb_all (pa_cons (pe_lc (own := [("_law_s", 10)]) (g := gName 10) rfl sc_law_way.nd (listK K rfl (pv 6)) (blkOk_by (by kernel_rfl)) (fun _ _ _ _ _ => pg_name (i := 10) sc_law_way.nd rfl (.inl rfl)) (fun _ _ _ _ _ => pts_nil) (fun _ _ _ _ _ => (pe_cmpR op_eq (pe_op op_and (pe_op op_shr (pe_ix (ixT K rfl) (pv 1) (pv 9) (fun _ _ => rfl)) (pv 10)) pe_int) pe_int (nomark _)))) pa_nil))))) (fun _ _ _ _ _ => (pv 9)))
    (pss_cons (ps_if (pt_cmpR (eqDK K rfl hr.units) (pv 8) (pe_lst pa_nil) (nomark _))
      (pss_one (ps_ret (pe_op op_rep (pe_lst (pa_cons (pe_op op_mod (pv 2) (pe_callB (lenK K rfl) (by rfl) B.len_ boot_len (pa_cons (pv 1) pa_nil))) pa_nil)) (pe_callB (lenK K rfl) (by rfl) B.len_ boot_len (pa_cons (pv 0) pa_nil)))))
      pss_nil)
    (pss_one (ps_asg (pe_ix (ixL K rfl) (pv 8) (pe_op op_mod (pe_op op_fdiv (pv 4) pe_int) (pe_callB (lenK K rfl) (by rfl) B.len_ boot_len (pa_cons (pv 8) pa_nil))) (fun _ _ => rfl)) (pg_sub (pv 3) (pv 5) set_list))))))))
  (pss_one (ps_ret (pv 3))))))
      , ?_⟩
    refine q_asgL (el_rep (v := .non) (k := o.length) (el_lst (ea_cons ev_c ea_nil) (by decide)) (fun H1 x1 => ev_is (ev_lenT (ev_var rfl) (ex_t x1 ho)) (by rw [List.length_map])) (by omega)) fun pr H1 hpr x1 hrow => ?_
    refine q_asg (ev_var rfl) fun H2 x2 => ?_
    have T2 : Tabs T H2 := hT.ext (x1.trans x2)
    have hr2 := x2 _ _ hrow
    refine ⟨.ref p1, rfl, p1, o, rfl, ex_t (x1.trans x2) ho, io, T2, fun L pl H3 lin x3 T3 fpl hl3 => ?_⟩
    have npl : pl ≠ pr := fun z => fpl pr _ hr2 (fun ps z => by cases z) z.symm
    have hr3 := ext_lst x3 hr2
    refine ⟨pl, rfl, ⟨_, .inl (.inl hl3)⟩, for_list (K := K) (a := pl) (xs := L.map nv)
      (fun i σ H' => ∃ (r : Int) (y5 y6 y7 y8 y9 y10 : Option V) (rl : List (Option Nat)), σ = [some (.ref p1), some (.ref p2), some (.int cell), some (.ref pr), some (.int r), y5, y6, y7, y8, y9, y10] ∧ ExtN H H' ∧ Tabs T H' ∧ H' pl = some (.lst (L.map nv)) ∧ H' pr = some (.lst (rl.map ov)) ∧ WayI o q L i rl)
      ⟨cell, none, none, none, none, none, none, List.replicate o.length none, rfl, (ext_ex (x1.trans x2)).trans x3, T3, hl3, by rw [List.map_replicate]; exact hr3, ⟨by rw [List.length_replicate], fun b hb => absurd hb (by simp), fun a b t s ha => absurd ha (by simp)⟩⟩
      (fun i σ H' _ ⟨_, _, _, _, _, _, _, _, _, _, _, z, _⟩ => .inl (.inl z)) (fun i x σ H' hx hP => ?_) (fun σ H' hP => ?_)⟩
    · obtain ⟨r, y5, y6, y7, y8, y9, y10, rl, rfl, x4, T4, hl4, hr4, W⟩ := hP
      have hi : i < L.length := by
        have := at_lt hx
        rw [List.length_map] at this
        exact this
      rw [List.getElem?_map, List.getElem?_eq_getElem hi] at hx
      have ex : nv L[i] = x := Option.some.inj hx
      subst ex
      have hbi : L[i]? = some L[i] := List.getElem?_eq_getElem hi
      generalize L[i] = b at hbi ⊢
      have hb := lin.lt hbi
      -- rest = turn(rest, b)
      refine q_asgT ⟨.int r, rfl, nv b, rfl, r, (b : Int), rfl, by omega, by omega, fun r2 s0 s1 H5 x5 => ?_⟩
      have ho5 := extT (x4.trans (ext_ex x5)) ho
      have hq5 := extT (x4.trans (ext_ex x5)) hq
      have hr5 := x5 _ _ hr4
      -- under
      refine q_asgL (xs := (((List.range o.length).filter fun a => (a != b && le o a b)).map fun a => (rl.getD a none).getD 0).map nv) ?_ fun pu H6 hpu x6 hu6 => ?_
      · have e : (((List.range o.length).filter fun a => (a != b && le o a b)).map fun a => (rl.getD a none).getD 0).map nv = given o.length (fun a => (a != b && le o a b)) fun a => ov (rl.getD a none) := by
          unfold given
          rw [List.map_map]
          refine List.map_congr_left fun a ha => ?_
          have ha2 := (List.mem_filter.mp ha).2
          rw [Bool.and_eq_true, bne_iff_ne] at ha2
          obtain ⟨t, h1, _⟩ := W.got a (lin.ahead hbi (List.mem_range.mp (List.mem_filter.mp ha).1) ha2.2 ha2.1)
          show nv ((rl.getD a none).getD 0) = ov (rl.getD a none)
          rw [h1]
          rfl
        rw [e]
        refine el_lcR1 (n := (o.length : Int)) (fun a => (a != b && le o a b)) (fun a => ov (rl.getD a none)) (ea_cons (ev_is (ev_lenT (ev_var rfl) ho5) (by rw [List.length_map])) ea_nil) (by omega) (fun x => rfl) (fun a H6 x6 ha => ?_) (fun a H6 x6 ha _ => ?_)
        · exact et_and (et_neN (ev_var rfl) (ev_var rfl)) fun _ => et_bit (ev_ixT (ev_var rfl) (ev_var rfl) (ex_t x6 ho5) (getN hb)) (ev_var rfl)
        · exact ev_ixL (ev_var rfl) (ev_var rfl) (.inl (.inl (x6 _ _ hr5))) (getO (by rw [W.len]; omega))
      · have husb : ∀ s ∈ (((List.range o.length).filter fun a => (a != b && le o a b)).map fun a => (rl.getD a none).getD 0), s < q.length := fun s hs => by
          obtain ⟨a, ha, rfl⟩ := List.mem_map.mp hs
          have ha2 := (List.mem_filter.mp ha).2
          rw [Bool.and_eq_true, bne_iff_ne] at ha2
          obtain ⟨t, h1, h2⟩ := W.got a (lin.ahead hbi (List.mem_range.mp (List.mem_filter.mp ha).1) ha2.2 ha2.1)
          rw [h1]
          exact h2
        have hul : (((List.range o.length).filter fun a => (a != b && le o a b)).map fun a => (rl.getD a none).getD 0).length ≤ 7 := by
          rw [List.length_map]
          have := List.length_filter_le (fun a => (a != b && le o a b)) (List.range o.length)
          rw [List.length_range] at this
          omega
        have husf : ∀ t, (∀ s ∈ (((List.range o.length).filter fun a => (a != b && le o a b)).map fun a => (rl.getD a none).getD 0), le q s t = true) → ∀ a, a < o.length → a ≠ b → le o a b = true → le q ((rl.getD a none).getD 0) t = true := fun t h a ha ne hl =>
          h _ (List.mem_map.mpr ⟨a, List.mem_filter.mpr ⟨List.mem_range.mpr ha, by rw [Bool.and_eq_true, bne_iff_ne]; exact ⟨ne, hl⟩⟩, rfl⟩)
        generalize (((List.range o.length).filter fun a => (a != b && le o a b)).map fun a => (rl.getD a none).getD 0) = us at hu6 husb hul husf
        have hq6 := ex_t x6 hq5
        -- fit
        refine q_asgL (xs := ((List.range q.length).filter fun t => ((List.range us.length).map fun j => le q (us.getD j 0) t).all id).map nv) ?_ fun pf H7 hpf x7 hf7 => ?_
        · refine el_lcR1 (n := (q.length : Int)) (fun t => ((List.range us.length).map fun j => le q (us.getD j 0) t).all id) nv (ea_cons (ev_is (ev_lenT (ev_var rfl) hq6) (by rw [List.length_map])) ea_nil) (by omega) (fun x => rfl) (fun t H7 x7 ht => ?_) (fun t H7 x7 ht _ => ev_var rfl)
          refine et_B (ev_all (K := K) ?_)
          rw [List.map_map, show (V.bl ∘ fun j => le q (us.getD j 0) t) = fun j => V.bl (le q (us.getD j 0) t) from rfl, ← given_all, show us.length = (us.map nv).length by rw [List.length_map]]
          refine el_lcL (a := pu) (xs := us.map nv) (fun _ => true) (fun j => V.bl (le q (us.getD j 0) t)) (ev_var rfl) (.inl (.inl (x7 _ _ hu6))) (by rw [List.length_map]; omega) (fun x => rfl) (fun j x H8 x8 hx => et_yes) (fun j x H8 x8 hx _ => ?_)
          have hj : j < us.length := by
            have := at_lt hx
            rw [List.length_map] at this
            exact this
          rw [getN hj] at hx
          obtain rfl := Option.some.inj hx
          exact ev_bitB (ev_ixT (ev_var rfl) (ev_var rfl) (ex_t (x7.trans x8) hq6) (getN (by omega))) (ev_var rfl)
        · have hfit : ∀ t ∈ ((List.range q.length).filter fun t => ((List.range us.length).map fun j => le q (us.getD j 0) t).all id), t < q.length ∧ ∀ s ∈ us, le q s t = true := fun t ht =>
            ⟨List.mem_range.mp (List.mem_filter.mp ht).1, all_mem (p := fun s => le q s t) (all_true.mp (List.mem_filter.mp ht).2)⟩
          generalize ((List.range q.length).filter fun t => ((List.range us.length).map fun j => le q (us.getD j 0) t).all id) = ft at hf7 hfit
          have hr7 := x7 _ _ (x6 _ _ hr5)
          have x7' : ExtN H H7 := x4.trans (ext_ex (x5.trans (x6.trans x7)))
          refine q_when (et_test (ev_isNil (K := K) (ev_var rfl) (.inl (.inl hf7)))) (fun hb2 H8 x8 => ?_) (fun hb2 H8 x8 => ?_)
          · -- return [cell % len(other)] * len(one)
            have hm := mod_lt cell (b := (q.length : Int)) (by omega)
            refine s_retL (xs := List.replicate o.length (V.int (cell % (q.length : Int)))) (el_rep (k := o.length) (el_lst (ea_cons (ev_op (ev_var rfl) (ev_is (ev_lenT (ev_var rfl) (ex_t (x7.trans x8) hq6)) (by rw [List.length_map])) (rv_I (by show (0 : Int) < (q.length : Int); omega))) ea_nil) (by show 1 ≤ 100000; decide)) (fun H9 x9 => ev_is (ev_lenT (ev_var rfl) (extT (x7'.trans (ext_ex (x8.trans x9))) ho)) (by rw [List.length_map])) (by omega)) fun p3 H9 hp3 x9 h9 => ?_
            have eR : ∀ a, a < o.length → (List.replicate o.length (cell % (q.length : Int)).toNat).getD a 0 = (cell % (q.length : Int)).toNat := fun a ha => by
              rw [List.getD_eq_getElem?_getD, List.getElem?_replicate, if_pos ha]
              rfl
            refine k (List.replicate o.length (cell % (q.length : Int)).toNat) p3 H9 ⟨by rw [List.length_replicate], fun a ha => ?_, fun a b2 ha hb3 _ => ?_⟩ (x7'.trans (ext_ex (x8.trans x9))) (T4.ext (x5.trans (x6.trans (x7.trans (x8.trans x9))))) ?_
            · rw [eR a ha]
              omega
            · rw [eR a ha, eR b2 hb3]
              exact iq.po.refl _ (by omega)
            · rw [h9, List.map_replicate]
              show _ = some (HO.lst (List.replicate o.length (V.int (((cell % (q.length : Int)).toNat : Nat) : Int))))
              rw [Int.toNat_of_nonneg hm.1]
          · -- row[b] = fit[rest // 5 % len(fit)]
            have fpos : 0 < ft.length := by
              cases ft with
              | nil => cases hb2
              | cons x l => exact Nat.succ_pos _
            have hm := mod_lt (r2 / 5) (b := (ft.length : Int)) (by omega)
            obtain ⟨j, hj⟩ : ∃ j : Nat, r2 / 5 % (ft.length : Int) = (j : Int) := ⟨_, (Int.toNat_of_nonneg hm.1).symm⟩
            have hjl : j < ft.length := by omega
            have hft := hfit _ (get_mem hjl)
            have hf8 := x8 _ _ hf7
            refine s_setL (l := pr) (xs := rl.map ov) (j := b) (v := nv (ft.getD j 0)) (x8 _ _ hr7) ?_ (ev_var rfl) (ev_var rfl) (by rw [List.length_map, W.len]; exact hb) fun H9 x9 => ⟨r2, _, _, _, _, _, _, rl.set b (some (ft.getD j 0)), rfl, extN_new (x7'.trans (ext_ex (x8.trans x9))) hpr, tabs_lst (T4.ext (x5.trans (x6.trans (x7.trans (x8.trans x9))))) (x9 _ _ (x8 _ _ hr7)), ?_, ?_, W.step io iq lin hbi hft.1 (husf _ hft.2)⟩
            · refine ev_ixL (p := pf) (j := j) (ev_var rfl) ?_ (.inl (.inl hf8)) (getN hjl)
              exact ev_is (ev_op (ev_op (ev_var rfl) ev_c (rv_I ⟨by decide, by decide⟩)) (ev_is (ev_len (ev_var rfl) (.inl (.inl hf8))) (by rw [List.length_map])) (rv_I (by show (0 : Int) < (ft.length : Int); omega))) (by rw [hj])
            · rw [upd_ne npl]
              exact x9 _ _ (x8 _ _ (x7 _ _ (x6 _ _ (x5 _ _ hl4))))
            · rw [upd_same, List.map_set]
              rfl
    · obtain ⟨r, y5, y6, y7, y8, y9, y10, rl, rfl, x4, T4, hl4, hr4, W⟩ := hP
      rw [List.length_map] at W
      obtain ⟨w1, w2⟩ := W.way lin
      rw [w2] at hr4
      exact s_ret (ev_var rfl) fun H5 x5 => k _ pr H5 w1 (x4.trans (ext_ex x5)) (T4.ext x5) (x5 _ _ hr4)
/-- when the last i things of L are done: the closed ones cl, the row rl -/
structure ClosI (o L : List Nat) (i : Nat) (cl rl : List Nat) : Prop where
  len : rl.length = o.length
  clo : ∀ t ∈ cl, t ∈ L.drop (L.length - i) ∧ rl.getD t 0 = t
  got : ∀ t ∈ L.drop (L.length - i), rl.getD t 0 ∈ cl ∧ le o t (rl.getD t 0) = true ∧ ∀ c ∈ cl, le o t c = true → le o (rl.getD t 0) c = true
  few : cl.length ≤ i
theorem mem_drop_rev {L : List Nat} {i t c : Nat} (hi : i < L.length) (ht : L[L.length - 1 - i]? = some t) : c ∈ L.drop (L.length - (i + 1)) ↔ c = t ∨ c ∈ L.drop (L.length - i) := by
  have e : L.length - (i + 1) = L.length - 1 - i := by omega
  have e2 : L.length - i = L.length - 1 - i + 1 := by omega
  have h1 : L.length - 1 - i < L.length := by omega
  rw [List.getElem?_eq_getElem h1] at ht
  rw [e, e2, List.drop_eq_getElem_cons h1, Option.some.inj ht, List.mem_cons]
/-- what comes later in L is not beneath; it is another -/
theorem Lin.later {o L : List Nat} (h : Lin o L) {i t p : Nat} (hi : i < L.length) (ht : L[L.length - 1 - i]? = some t) (hp : p ∈ L.drop (L.length - i)) : p ≠ t ∧ ¬ le o p t = true := by
  have h1 : L.length - 1 - i < L.length := by omega
  rw [List.getElem?_eq_getElem h1] at ht
  obtain ⟨j, hj, e⟩ := List.mem_iff_getElem.mp hp
  rw [List.length_drop] at hj
  rw [List.getElem_drop] at e
  have ne : p ≠ t := fun z => by
    have w : L[L.length - i + j] = L[L.length - 1 - i] := by rw [e, Option.some.inj ht, z]
    have := (List.getElem_inj h.nd).mp w
    omega
  refine ⟨ne, fun hl => ?_⟩
  have z := List.pairwise_iff_getElem.mp h.ord (L.length - 1 - i) (L.length - i + j) h1 (by omega) (by omega)
  rw [e, Option.some.inj ht] at z
  exact ne (z hl)
theorem ClosI.close {o L : List Nat} {i t : Nat} {cl rl : List Nat} (io : IsOrd o) (lin : Lin o L) (C : ClosI o L i cl rl) (hi : i < L.length) (ht : L[L.length - 1 - i]? = some t) : ClosI o L (i + 1) (cl ++ [t]) (rl.set t t) := by
  have htl : t < rl.length := by rw [C.len]; exact lin.lt ht
  refine ⟨by rw [List.length_set, C.len], fun x hx => ?_, fun x hx => ?_, by rw [List.length_append, List.length_singleton]; have := C.few; omega⟩
  · rcases List.mem_append.mp hx with hx | hx
    · obtain ⟨a, b⟩ := C.clo x hx
      have l := lin.later hi ht a
      exact ⟨(mem_drop_rev hi ht).mpr (.inr a), by rw [setN_ne fun z => l.1 z.symm]; exact b⟩
    · rw [List.mem_singleton] at hx
      subst hx
      exact ⟨(mem_drop_rev hi ht).mpr (.inl rfl), setN_same htl⟩
  · rcases (mem_drop_rev hi ht).mp hx with hx | hx
    · subst hx
      rw [setN_same htl]
      exact ⟨List.mem_append_right _ (List.mem_singleton.mpr rfl), io.po.refl x (lin.lt ht), fun c _ h => h⟩
    · have l := lin.later hi ht hx
      obtain ⟨a, b, d⟩ := C.got x hx
      rw [setN_ne fun z => l.1 z.symm]
      refine ⟨List.mem_append_left _ a, b, fun c hc h => ?_⟩
      rcases List.mem_append.mp hc with hc | hc
      · exact d c hc h
      · rw [List.mem_singleton] at hc
        rw [hc] at h
        exact absurd h l.2
theorem ClosI.lead {o L : List Nat} {i t k : Nat} {cl rl : List Nat} (io : IsOrd o) (lin : Lin o L) (C : ClosI o L i cl rl) (hi : i < L.length) (ht : L[L.length - 1 - i]? = some t) (hk : k ∈ cl) (hl : le o t k = true) (hm : ∀ c ∈ cl, le o t c = true → le o k c = true) :
    ClosI o L (i + 1) cl (rl.set t k) := by
  have htl : t < rl.length := by rw [C.len]; exact lin.lt ht
  refine ⟨by rw [List.length_set, C.len], fun x hx => ?_, fun x hx => ?_, by have := C.few; omega⟩
  · obtain ⟨a, b⟩ := C.clo x hx
    have l := lin.later hi ht a
    exact ⟨(mem_drop_rev hi ht).mpr (.inr a), by rw [setN_ne fun z => l.1 z.symm]; exact b⟩
  · rcases (mem_drop_rev hi ht).mp hx with hx | hx
    · subst hx
      rw [setN_same htl]
      exact ⟨hk, hl, hm⟩
    · have l := lin.later hi ht hx
      rw [setN_ne fun z => l.1 z.symm]
      exact C.got x hx
theorem ClosI.clos {o L : List Nat} {cl rl : List Nat} (lin : Lin o L) (C : ClosI o L L.length cl rl) : IsClos o rl := by
  have all : ∀ t, t < o.length → t ∈ L.drop (L.length - L.length) := fun t ht => by
    rw [Nat.sub_self]
    exact lin.perm.mem_iff.mpr (List.mem_range.mpr ht)
  have low : ∀ t ∈ cl, t < o.length := fun t ht => List.mem_range.mp (lin.perm.mem_iff.mp (List.mem_of_mem_drop (C.clo t ht).1))
  refine ⟨C.len, fun t ht => low _ (C.got t (all t ht)).1, fun t ht => (C.got t (all t ht)).2.1, fun t ht => (C.clo _ (C.got t (all t ht)).1).2, fun t c ht hc e hl => (C.got t (all t ht)).2.2 c ?_ hl⟩
  have := (C.got c (all c hc)).1
  rw [e] at this
  exact this
theorem ok_law_closing (B : Bt mg) (h_law_by_size : Has P w K mg base "_law_by_size" 4 ["_law_order_here"] (spBySize K T)) (h_law_turn : Has P w K mg base "_law_turn" 1 ["_law_cell_here", "_law_k"] spTurn)
    (h_law_least : Has P w K mg base "_law_least" 1 ["_law_order_here", "_law_things"] (spLeast K)) (D : Df K mg "_law_closing" s_law_closing c) : Has P w K mg base "_law_closing" 5 ["_law_order_here", "_law_cell_here"] (spClosing K T) := by
  refine D.has sc_law_closing (fun vs H Q E h => ?_) (fun _ _ _ _ _ _ us hl => match us, hl with | [_, _], _ => rfl) (fun f A outer s H vs Q E hr h => ?_)
  · obtain ⟨p1, o, a, rfl, _⟩ := h
    rfl
  · obtain ⟨p1, o, cell, rfl, ho, io, hT, k⟩ := h
    have n7 := io.top
    refine ⟨_, (pss_cons (ps_set (i := 2) sc_law_closing.nd rfl (.inl rfl) (pe_lst pa_nil))
  (pss_cons (ps_set (i := 3) sc_law_closing.nd rfl (.inl rfl) (pe_op op_rep (pe_lst (pa_cons pe_int pa_nil)) (pe_callB (lenK K rfl) (by rfl) B.len_ boot_len (pa_cons (pv 0) pa_nil))))
  (pss_cons (ps_set (i := 4) sc_law_closing.nd rfl (.inl rfl) (pv 1))
  (pss_cons (ps_for PassesOwn.never rfl (pi_reversed (by rfl) B.reversed_ (pa_cons (pe_has h_law_by_size (hr.mono (by decide)) (by rfl) (pa_cons (pv 0) pa_nil)) pa_nil)) (pg_name (i := 5) sc_law_closing.nd rfl (.inr rfl))
    (pss_cons (ps_set (i := 4) sc_law_closing.nd rfl (.inl rfl) (pe_has h_law_turn (hr.mono (by decide)) (by rfl) (pa_cons (pv 4) (pa_cons (pv 5) pa_nil))))
    (pss_cons (ps_set (i := 6) sc_law_closing.nd rfl (.inl rfl) (pe_has h_law_least (hr.mono (by decide)) (by rfl) (pa_cons (pv 0) (pa_cons (pe_lc (own := [("_law_one", 7)]) (g := gName 7) rfl sc_law_closing.nd (listK K rfl (pv 2)) (blkOk_by (by kernel_rfl)) (fun _ _ _ _ _ => pg_name (i := 7) sc_law_closing.nd rfl (.inl rfl)) (fun _ _ _ _ _ => (pts_one (pt_cmpR op_eq (pe_op op_and (pe_op op_shr (pe_ix (ixT K rfl) (pv 0) (pv 7) (fun _ _ => rfl)) (pv 5)) pe_int) pe_int (nomark _)))) (fun _ _ _ _ _ => (pv 7))) pa_nil))))
    (pss_cut (ps_if (PW.pt (pw_or (pt_cmpR op_isN (pv 6) pe_non (nomark _)) (pw_or1 (pt_cmpR op_eq (pe_op op_mod (pe_op op_fdiv (pv 4) pe_int) pe_int) pe_int (nomark _)))))
      (pss_cons (ps_expr (pe_bm PySem.F.plainAttrs_list PySem.F.slot_list_append PySem.F.type_list_append mt_append (pv 2) (pa_cons (pv 5) pa_nil)))
      (pss_one (ps_set (i := 6) sc_law_closing.nd rfl (.inl rfl) (pv 5))))
      pss_nil)
    (pss_one (ps_asg (pv 6) (pg_sub (pv 3) (pv 5) set_list)))))))
  (pss_one (ps_ret (pv 3)))))))
      , ?_⟩
    refine q_asgL (el_lst ea_nil (by decide)) fun pc H1 hpc x1 hc1 => ?_
    refine q_asgL (el_rep (v := .int 0) (k := o.length) (el_lst (ea_cons ev_c ea_nil) (by decide)) (fun H2 x2 => ev_is (ev_lenT (ev_var rfl) (ex_t (x1.trans x2) ho)) (by rw [List.length_map])) (by omega)) fun pr H2 hpr x2 hr2 => ?_
    have hpr0 : H pr = none := fresh_back x1 hpr
    have ncr : pc ≠ pr := fun z => by rw [← z, hc1] at hpr; cases hpr
    refine q_asg (ev_var rfl) fun H3 x3 => ?_
    have T3 : Tabs T H3 := hT.ext (x1.trans (x2.trans x3))
    have hr3 := x3 _ _ hr2
    have hc3 := x3 _ _ (x2 _ _ hc1)
    refine ⟨.ref p1, rfl, p1, o, rfl, ex_t (x1.trans (x2.trans x3)) ho, io, T3, fun L pl H4 lin x4 T4 fpl hl4 => ?_⟩
    have nplr : pl ≠ pr := fun z => fpl pr _ hr3 (fun ps z => by cases z) z.symm
    have nplc : pl ≠ pc := fun z => fpl pc _ hc3 (fun ps z => by cases z) z.symm
    refine ⟨pl, L.map nv, rfl, .inl (.inl hl4), RT.for_Itv (K := K) (a := pl) (xs := L.map nv)
      (fun i σ H' => ∃ (r : Int) (y5 y6 y7 : Option V) (cl rl : List Nat), σ = [some (.ref p1), some (.int cell), some (.ref pc), some (.ref pr), some (.int r), y5, y6, y7] ∧ ExtN H H' ∧ Tabs T H' ∧ H' pl = some (.lst (L.map nv)) ∧ H' pc = some (.lst (cl.map nv)) ∧ H' pr = some (.lst (rl.map nv)) ∧ ClosI o L i cl rl)
      ⟨cell, none, none, none, [], List.replicate o.length 0, rfl, (ext_ex (x1.trans (x2.trans x3))).trans x4, T4, hl4, ext_lst x4 hc3, by rw [List.map_replicate]; exact ext_lst x4 hr3, ⟨by rw [List.length_replicate], fun t ht => by simp at ht, fun t ht => by simp at ht, Nat.le_refl _⟩⟩
      (fun i σ H' ⟨_, _, _, _, _, _, _, _, _, z, _⟩ => .inl (.inl z)) (fun i x σ H' hi hx hP => ?_) (fun σ H' hP => ?_)⟩
    · obtain ⟨r, y5, y6, y7, cl, rl, rfl, x5, T5, hl5, hc5, hr5, C⟩ := hP
      rw [List.length_map] at hi hx
      have h1 : L.length - 1 - i < L.length := by omega
      rw [List.getElem?_map, List.getElem?_eq_getElem h1] at hx
      have ex : nv L[L.length - 1 - i] = x := Option.some.inj hx
      subst ex
      have hti : L[L.length - 1 - i]? = some L[L.length - 1 - i] := List.getElem?_eq_getElem h1
      generalize L[L.length - 1 - i] = t at hti ⊢
      have ht := lin.lt hti
      have hfew := C.few
      have hLl := lin.len
      have clow : ∀ x ∈ cl, x < o.length := fun x hx => List.mem_range.mp (lin.perm.mem_iff.mp (List.mem_of_mem_drop (C.clo x hx).1))
      refine q_asgT ⟨.int r, rfl, nv t, rfl, r, (t : Int), rfl, by omega, by omega, fun r2 s0 s1 H6 x6 => ?_⟩
      have ho6 := extT (x5.trans (ext_ex x6)) ho
      have hc6 := x6 _ _ hc5
      -- led = least(order, [..])
      refine q_asgT ⟨.ref p1, rfl, ?_⟩
      have eU : given (cl.map nv).length (fun j => le o t (cl.getD j 0)) (fun j => nv (cl.getD j 0)) = (((List.range cl.length).filter fun j => le o t (cl.getD j 0)).map fun j => cl.getD j 0).map nv := by
        unfold given
        rw [List.length_map, List.map_map]
        rfl
      refine el_lcL (K := K) (a := pc) (xs := cl.map nv) (fun j => le o t (cl.getD j 0)) (fun j => nv (cl.getD j 0)) (ev_var rfl) (.inl (.inl hc6)) (by rw [List.length_map]; omega) (fun x => rfl) (fun j x H7 x7 hx => ?_) (fun j x H7 x7 hx _ => ?_) H6 (Evl.Ex.refl _) _ fun pu H7 hpu x7 hu7 => ?_
      · have hj : j < cl.length := by
          have := at_lt hx
          rw [List.length_map] at this
          exact this
        rw [getN hj] at hx
        obtain rfl := Option.some.inj hx
        exact et_bit (ev_ixT (ev_var rfl) (ev_var rfl) (ex_t x7 ho6) (getN (clow _ (get_mem hj)))) (ev_var rfl)
      · have hj : j < cl.length := by
          have := at_lt hx
          rw [List.length_map] at this
          exact this
        rw [getN hj] at hx
        obtain rfl := Option.some.inj hx
        exact ev_var rfl
      · rw [eU] at hu7
        have hup : ∀ x, x ∈ (((List.range cl.length).filter fun j => le o t (cl.getD j 0)).map fun j => cl.getD j 0) ↔ x ∈ cl ∧ le o t x = true := fun x => by
          constructor
          · intro hx
            obtain ⟨j, hj, rfl⟩ := List.mem_map.mp hx
            have hj2 := List.mem_filter.mp hj
            exact ⟨get_mem (List.mem_range.mp hj2.1), hj2.2⟩
          · rintro ⟨hx, hl⟩
            obtain ⟨j, hj⟩ := List.mem_iff_getElem?.mp hx
            have e : cl.getD j 0 = x := by rw [List.getD_eq_getElem?_getD, hj]; rfl
            exact List.mem_map.mpr ⟨j, List.mem_filter.mpr ⟨List.mem_range.mpr (at_lt hj), by rw [e]; exact hl⟩, e⟩
        have hulen : (((List.range cl.length).filter fun j => le o t (cl.getD j 0)).map fun j => cl.getD j 0).length ≤ 16 := by
          rw [List.length_map]
          have := List.length_filter_le (fun j => le o t (cl.getD j 0)) (List.range cl.length)
          rw [List.length_range] at this
          omega
        generalize (((List.range cl.length).filter fun j => le o t (cl.getD j 0)).map fun j => cl.getD j 0) = up at hu7 hup hulen
        refine ⟨p1, pu, o, up, rfl, ex_t x7 ho6, .inl (.inl hu7), fun x hx => clow x ((hup x).mp hx).1, hulen, fun v hv H8 x8 => ?_⟩
        have x8' : ExtN H H8 := x5.trans (ext_ex (x6.trans (x7.trans x8)))
        have T8 : Tabs T H8 := T5.ext (x6.trans (x7.trans x8))
        have hc8 := x8 _ _ (x7 _ _ hc6)
        have hr8 := x8 _ _ (x7 _ _ (x6 _ _ hr5))
        have hl8 := x8 _ _ (x7 _ _ (x6 _ _ hl5))
        refine q_cut (M := fun σ H' => ∃ (y7 : Option V) (cl2 : List Nat) (k : Nat), σ = [some (.ref p1), some (.int cell), some (.ref pc), some (.ref pr), some (.int r2), some (nv t), some (nv k), y7] ∧ ExtN H H' ∧ Tabs T H' ∧ H' pl = some (.lst (L.map nv)) ∧ H' pc = some (.lst (cl2.map nv)) ∧ H' pr = some (.lst (rl.map nv)) ∧ ClosI o L (i + 1) cl2 (rl.set t k)) ?_ fun σ H' hM => ?_
        · refine s_when (b := (v.isNone || decide (V.int (r2 / 7 % 3) = V.int 0))) (et_or (et_test (ev_is (ev_op (x := ov v) (y := .non) (z := .bl (decide (ov v = .non))) (ev_var rfl) ev_c (rv_val fun H9 x9 Q' k' => ⟨rfl, k'⟩)) ?_)) fun _ => et_test (ev_op (ev_op (ev_op (ev_var rfl) ev_c (rv_I ⟨by decide, by decide⟩)) ev_c (rv_I (by show (0 : Int) < 3; decide))) ev_c (rv_eq rfl))) (fun hb H9 x9 => ?_) (fun hb H9 x9 => ?_)
          · cases v with
            | none => rfl
            | some z =>
              show V.bl (decide (nv z = V.non)) = V.bl false
              rw [decide_eq_false fun e => by cases e]
          · have C2 := C.close io lin hi hti
            refine q_app (x9 _ _ hc8) (ev_var rfl) (ev_var rfl) (by rw [List.length_map]; omega) fun H10 x10 => ?_
            refine s_asg (ev_var rfl) fun H11 x11 => ⟨_, cl ++ [t], t, rfl, (extN_new (x8'.trans (ext_ex (x9.trans x10))) (fresh_back (Evl.Ex.refl _) hpc)).trans (ext_ex x11), ?_, ?_, ?_, ?_, C2⟩
            · exact (tabs_lst (T8.ext (x9.trans x10)) (x10 _ _ (x9 _ _ hc8))).ext x11
            · exact x11 _ _ ((upd_ne nplc).trans (x10 _ _ (x9 _ _ hl8)))
            · refine x11 _ _ (upd_same.trans ?_)
              rw [List.map_append]
              rfl
            · exact x11 _ _ ((upd_ne ncr.symm).trans (x10 _ _ (x9 _ _ hr8)))
          · rw [Bool.or_eq_false_iff] at hb
            cases v with
            | none => cases hb.1
            | some k =>
              obtain ⟨k1, k2⟩ := hv k rfl
              obtain ⟨k3, k4⟩ := (hup k).mp k1
              exact ⟨_, cl, k, rfl, x8'.trans (ext_ex x9), T8.ext x9, x9 _ _ hl8, x9 _ _ hc8, x9 _ _ hr8, C.lead io lin hi hti k3 k4 fun c hc hl => k2 c ((hup c).mpr ⟨hc, hl⟩)⟩
        · obtain ⟨y7, cl2, k, rfl, x9, T9, hl9, hc9, hr9, C2⟩ := hM
          refine s_setL (l := pr) (xs := rl.map nv) (j := t) hr9 (ev_var rfl) (ev_var rfl) (ev_var rfl) (by rw [List.length_map, C.len]; exact ht) fun H10 x10 => ⟨r2, _, _, _, cl2, rl.set t k, rfl, extN_new (x9.trans (ext_ex x10)) hpr0, tabs_lst (T9.ext x10) (x10 _ _ hr9), (upd_ne nplr).trans (x10 _ _ hl9), (upd_ne ncr).trans (x10 _ _ hc9), ?_, C2⟩
          rw [upd_same, List.map_set]
    · obtain ⟨r, y5, y6, y7, cl, rl, rfl, x5, T5, hl5, hc5, hr5, C⟩ := hP
      rw [List.length_map] at C
      exact s_ret (ev_var rfl) fun H6 x6 => k rl pr H6 (C.clos lin) (x5.trans (ext_ex x6)) (T5.ext x6) (x6 _ _ hr5)
end
end Sw
set_option Elab.async false
set_option linter.all false
set_option maxRecDepth 100000
set_option maxHeartbeats 4000000
/-! _law_pair -/
namespace Sw
open PySem PySem.Spec PyProof.Rows L2 LamX NdefX SwK Evl
/-- two orders and a pair of ways between them -/
structure PairOk (o q u d : List Nat) : Prop where
  io : IsOrd o
  iq : IsOrd q
  ul : u.length = o.length
  dl : d.length = q.length
  ult : ∀ a, a < o.length → u.getD a 0 < q.length
  dlt : ∀ b, b < q.length → d.getD b 0 < o.length
  adj : ∀ a b, a < o.length → b < q.length → le q (u.getD a 0) b = le o a (d.getD b 0)
theorem beq_of_iff {a b : Bool} (h : a = true ↔ b = true) : a = b := by
  cases a <;> cases b <;> simp at h ⊢
/-- a way and the greatest things are a pair -/
theorem pair_back {o q u : List Nat} {d : List (Option Nat)} (io : IsOrd o) (iq : IsOrd q) (W : IsWay o q u) (B : BackOk o q u d) (h : ∀ x ∈ d, x ≠ none) : PairOk o q u (d.map fun x => x.getD 0) ∧ d.map ov = (d.map fun x => x.getD 0).map nv := by
  have at_ : ∀ b, b < q.length → ∃ g, d[b]? = some (some g) ∧ (d.map fun x => x.getD 0).getD b 0 = g := fun b hb => by
    have hb : b < d.length := by rw [B.1]; exact hb
    cases e : d[b] with
    | none => exact absurd e (h _ (List.getElem_mem hb))
    | some g =>
      refine ⟨g, by rw [List.getElem?_eq_getElem hb, e], ?_⟩
      rw [List.getD_eq_getElem?_getD, List.getElem?_map, List.getElem?_eq_getElem hb, e]
      rfl
  refine ⟨⟨io, iq, W.len, by rw [List.length_map]; exact B.1, W.lt, fun b hb => ?_, fun a b ha hb => beq_of_iff ⟨fun hl => ?_, fun hl => ?_⟩⟩, ?_⟩
  · obtain ⟨g, g1, g2⟩ := at_ b hb
    rw [g2]
    exact (B.2 b g g1).1
  · obtain ⟨g, g1, g2⟩ := at_ b hb
    rw [g2]
    exact (B.2 b g g1).2.2 a ha hl
  · obtain ⟨g, g1, g2⟩ := at_ b hb
    rw [g2] at hl
    obtain ⟨h1, h2, _⟩ := B.2 b g g1
    exact iq.po.trans _ _ b (W.lt a ha) (W.lt g h1) hb (W.mono a g ha h1 hl) h2
  · rw [List.map_map]
    refine List.map_congr_left fun x hx => ?_
    cases x with
    | none => exact absurd rfl (h _ hx)
    | some g => rfl
/-! ### the closed things -/
def closd (o r : List Nat) : List Nat := (List.range o.length).filter fun t => r.getD t 0 == t
theorem mem_closd {o r : List Nat} {t : Nat} : t ∈ closd o r ↔ t < o.length ∧ r.getD t 0 = t := by
  unfold closd
  rw [List.mem_filter, List.mem_range, beq_iff_eq]
theorem bits_closd {o r : List Nat} (hl : o.length ≤ 16) : bits (maskOf (closd o r)) = closd o r := by
  have hm : maskOf (closd o r) < 2 ^ o.length := maskOf_lt fun k hk => (mem_closd.mp hk).1
  have e := pre_more hm (16 - o.length)
  rw [show o.length + (16 - o.length) = 16 by omega] at e
  show pre (maskOf (closd o r)) 16 = _
  rw [e]
  unfold pre
  show _ = (List.range o.length).filter fun t => r.getD t 0 == t
  refine List.filter_congr fun k hk => ?_
  rw [bit_maskOf]
  refine beq_of_iff ?_
  rw [decide_eq_true_iff, mem_closd, beq_iff_eq]
  exact ⟨fun z => z.2, fun z => ⟨List.mem_range.mp hk, z⟩⟩
theorem maskOf_snoc (l : List Nat) (n : Nat) : maskOf (l ++ [n]) = maskOf l ||| 1 <<< n := by
  unfold maskOf
  rw [List.foldl_append]
  rfl
theorem mask_sum (p : Nat → Bool) : ∀ n : Nat, (((List.range n).filter p).map fun t => ((1 <<< t : Nat) : Int)).sum = ((maskOf ((List.range n).filter p) : Nat) : Int)
  | 0 => rfl
  | n + 1 => by
    rw [List.range_succ, List.filter_append, List.map_append, List.sum_append, mask_sum p n]
    by_cases h : p n = true
    · rw [List.filter_cons_of_pos h]
      show _ + (List.map _ [n]).sum = ((maskOf (_ ++ [n]) : Nat) : Int)
      rw [maskOf_snoc]
      have hm : maskOf ((List.range n).filter p) < 2 ^ n := maskOf_lt fun k hk => List.mem_range.mp (List.mem_filter.mp hk).1
      have e := Nat.two_pow_add_eq_or_of_lt hm 1
      rw [Nat.mul_one, Nat.or_comm, ← Nat.one_shiftLeft] at e
      rw [← e, List.map_singleton, List.sum_singleton, Int.natCast_add]
      omega
    · rw [List.filter_cons_of_neg h]
      simp
theorem le_kept {o cl : List Nat} {m i k : Nat} (hb : bits m = cl) (hi : i < cl.length) : le (kept o m) k i = decide (k < cl.length ∧ le o (cl.getD k 0) (cl.getD i 0) = true) := by
  have e : (kept o m).getD i 0 = maskOf ((List.range cl.length).filter fun k => le o (cl.getD k 0) (cl.getD i 0)) := by
    unfold kept
    rw [hb, List.getD_eq_getElem?_getD, List.getElem?_map, List.getD_eq_getElem?_getD, List.getElem?_eq_getElem hi]
    rfl
  unfold le at e ⊢
  rw [e, bit_maskOf]
  refine decide_eq_decide.mpr ?_
  rw [List.mem_filter, List.mem_range]
theorem closd_ix {o r : List Nat} {i : Nat} (hi : i < (closd o r).length) : (closd o r).getD i 0 < o.length ∧ r.getD ((closd o r).getD i 0) 0 = (closd o r).getD i 0 := mem_closd.mp (get_mem hi)
theorem closd_inj {o r : List Nat} {i j : Nat} (hi : i < (closd o r).length) (hj : j < (closd o r).length) (e : (closd o r).getD i 0 = (closd o r).getD j 0) : i = j := by
  have nd : (closd o r).Nodup := List.nodup_range.sublist List.filter_sublist
  rw [List.getD_eq_getElem?_getD, List.getElem?_eq_getElem hi, List.getD_eq_getElem?_getD, List.getElem?_eq_getElem hj] at e
  exact (List.getElem_inj nd).mp e
theorem closd_in {o r : List Nat} (C : IsClos o r) {t : Nat} (ht : t < o.length) : r.getD t 0 ∈ closd o r := mem_closd.mpr ⟨C.lt t ht, C.once t ht⟩
theorem ixOf_at {l : List Nat} {x : Nat} (h : x ∈ l) : l.idxOf x < l.length ∧ l.getD (l.idxOf x) 0 = x := by
  have h1 := List.idxOf_lt_length_of_mem h
  refine ⟨h1, ?_⟩
  rw [List.getD_eq_getElem?_getD, List.getElem?_eq_getElem h1]
  exact List.getElem_idxOf h1
theorem idx_before : ∀ (l : List Nat) (x m : Nat), m < l.idxOf x → l.getD m 0 ≠ x
  | [], x, m, h => absurd h (by simp)
  | y :: l, x, m, h => by
    rw [List.idxOf_cons] at h
    cases e : y == x with
    | true =>
      rw [e] at h
      exact absurd h (by simp)
    | false =>
      rw [e] at h
      have h : m < l.idxOf x + 1 := h
      cases m with
      | zero => exact fun z => (beq_eq_false_iff_ne.mp e) z
      | succ m => exact idx_before l x m (by omega)
/-- a closing's two ways are a pair -/
theorem pair_clos {o r : List Nat} (io : IsOrd o) (C : IsClos o r) : PairOk o (kept o (maskOf (closd o r))) (r.map fun x => (closd o r).idxOf x) (closd o r) := by
  have n7 := io.top
  have hb := bits_closd (o := o) (r := r) (by omega)
  have kl : (kept o (maskOf (closd o r))).length = (closd o r).length := by
    unfold kept
    rw [List.length_map, hb]
  have cl7 : (closd o r).length ≤ o.length := by
    have := List.length_filter_le (fun t => r.getD t 0 == t) (List.range o.length)
    rw [List.length_range] at this
    exact this
  have u_at : ∀ a, a < o.length → (r.map fun x => (closd o r).idxOf x).getD a 0 = (closd o r).idxOf (r.getD a 0) := fun a ha => by
    have h : a < r.length := by rw [C.len]; exact ha
    rw [List.getD_eq_getElem?_getD, List.getElem?_map, List.getElem?_eq_getElem h, List.getD_eq_getElem?_getD, List.getElem?_eq_getElem h]
    rfl
  refine ⟨io, ⟨?_, by omega, fun b hb2 k hk => ?_, ⟨fun a ha => ?_, fun a b c ha hb2 hc h1 h2 => ?_, fun a b ha hb2 h1 h2 => ?_⟩⟩, by rw [List.length_map]; exact C.len, kl.symm, fun a ha => ?_, fun b hb2 => ?_, fun a b ha hb2 => ?_⟩
  · rw [kl]
    exact List.length_pos_of_mem (closd_in C (t := 0) io.pos)
  · rw [kl] at hb2 ⊢
    have hk : le (kept o (maskOf (closd o r))) k b = true := hk
    rw [le_kept hb hb2] at hk
    exact (of_decide_eq_true hk).1
  · rw [kl] at ha
    rw [le_kept hb ha]
    exact decide_eq_true ⟨ha, io.po.refl _ (closd_ix ha).1⟩
  · rw [kl] at ha hb2 hc
    rw [le_kept hb hb2] at h1
    rw [le_kept hb hc] at h2 ⊢
    exact decide_eq_true ⟨ha, io.po.trans _ _ _ (closd_ix ha).1 (closd_ix hb2).1 (closd_ix hc).1 (of_decide_eq_true h1).2 (of_decide_eq_true h2).2⟩
  · rw [kl] at ha hb2
    rw [le_kept hb hb2] at h1
    rw [le_kept hb ha] at h2
    exact closd_inj ha hb2 (io.po.anti _ _ (closd_ix ha).1 (closd_ix hb2).1 (of_decide_eq_true h1).2 (of_decide_eq_true h2).2)
  · rw [u_at a ha, kl]
    exact (ixOf_at (closd_in C ha)).1
  · rw [kl] at hb2
    exact (closd_ix hb2).1
  · rw [kl] at hb2
    obtain ⟨i1, i2⟩ := ixOf_at (closd_in C ha)
    obtain ⟨c1, c2⟩ := closd_ix hb2
    rw [u_at a ha, le_kept hb hb2, i2]
    refine beq_of_iff ?_
    rw [decide_eq_true_iff]
    exact ⟨fun z => io.po.trans _ _ _ ha (C.lt a ha) c1 (C.up a ha) z.2, fun z => ⟨i1, C.least a _ ha c1 c2 z⟩⟩
theorem ov_flat (d : List (Option Nat)) : (d.map ov).all flatV = true := by
  rw [List.all_eq_true]
  intro x hx
  obtain ⟨y, _, rfl⟩ := List.mem_map.mp hx
  cases y <;> rfl
theorem inV_none (d : List (Option Nat)) : inV .non (d.map ov) = d.any fun x => x.isNone := by
  unfold inV
  rw [List.any_map]
  refine congrArg (fun p => d.any p) (funext fun x => ?_)
  cases x <;> rfl
section
variable {X : Cx}
theorem idxK (K : PySem.W.Frag) (h : X.K = K) : MtR X "list.index" (rIndex K) := h ▸ mt_index
theorem bmK (K : PySem.W.Frag) (h : X.K = K) {o e : Expr} {es : List Expr} {to : TE} {t : TA} {name : Str} {apos cpos : Pos} {T id : String} {r : V → List V → Hp → VK → Prop} (pa : PlainAttrs T) (slot : Slot T name id) (hty : typeOf (.builtin id) = pure (.type "method_descriptor")) (hm : MtR X id r) (ho : PE X o to) (ha : PA X (e :: es) t)
    (hbase : attributeBase o name X.env (eval o X.env) = eval o X.env := by rfl)
    (hfew : ((backTo cpos (starEach (e :: es) X.env)).all (fun x => !x.1) && (backToKw cpos (keywordEach [] X.env)).all (fun x => x.1.isSome) && decide ((e :: es).length + ([] : List Keyword).length + (if ([] : List Keyword).isEmpty then 0 else 1) < 30)) = true := by rfl)
    (hline : (apos.endLine == cpos.line) = true := by rfl) (hs : starEach (e :: es) X.env = (false, eval e X.env) :: starEach es X.env := by rfl) (hpl : (backTo cpos (starEach es X.env)).any (·.1) = false := by rfl) :
    PE X (.Call (.Attribute o name apos) (e :: es) [] cpos) (tBM K T r to t) := h ▸ pe_bm pa slot hty hm ho ha hbase hfew hline hs hpl
end
section
variable {K : PySem.W.Frag} {σ : L2.St} {H : Hp} {ta tb te : TE} {tA tR : TA} {sp : Sp} {vs : List V} {E : XK} {Q : VK}
theorem call_unf (h : tA σ H fun vs H1 => sp (vs ++ []) H1 Q E) : tCall sp [] E tA σ H Q := h
/-- None in xs -/
theorem rv_test {σ : L2.St} {ta : TE} {p : Addr} {xs : List V} (h : SqL K H p xs) (f : xs.all flatV = true) (ha : Ev ta σ H (.ref p) := by exact ev_var rfl) : Ev (tOp (rIn K false) (tC .non) ta) σ H (.bl (inV .non xs)) := ev_op ev_c ha (rv_isL h rfl f)
/-- the first argument a call, its own arguments told -/
theorem arg_call {Q : List V → Hp → Prop} (h : EvA tA σ H vs) (k : ∀ H1, Evl.Ex H H1 → sp (vs ++ []) H1 (fun x H2 => tR σ H2 fun xs H3 => Q (x :: xs) H3) E) : tCons (tCall sp [] E tA) tR σ H Q := h H (Evl.Ex.refl _) _ k
theorem arg_unf {Q : List V → Hp → Prop} (h : tA σ H fun vs H1 => sp (vs ++ []) H1 (fun x H2 => tR σ H2 fun xs H3 => Q (x :: xs) H3) E) : tCons (tCall sp [] E tA) tR σ H Q := h
theorem arg_ev {Q : List V → Hp → Prop} {x : V} (h : Ev te σ H x) (k : ∀ H1, Evl.Ex H H1 → tR σ H1 fun xs H3 => Q (x :: xs) H3) : tCons te tR σ H Q := h H (Evl.Ex.refl _) _ k
/-- xs.index(x), x among them -/
theorem ev_index {p : Addr} {l : List Nat} {x : Nat} (ha : Ev ta σ H (.ref p)) (hb : Ev te σ H (nv x)) (hl : SqL K H p (l.map nv)) (hx : x ∈ l) : Ev (tBM K "list" (rIndex K) ta (tCons te tNil)) σ H (nv (l.idxOf x)) := by
  intro H1 x1 Q k
  refine ha H1 x1 _ fun H2 x2 => ⟨.inl ⟨rfl, _, ex_l (x1.trans x2) hl⟩, ?_⟩
  refine hb H2 (x1.trans x2) _ fun H3 x3 => ?_
  obtain ⟨i1, i2⟩ := ixOf_at hx
  have fl : (l.map nv).all flatV = true := by
    rw [List.all_eq_true]
    intro y hy
    obtain ⟨z, _, rfl⟩ := List.mem_map.mp hy
    rfl
  refine ⟨p, l.map nv, nv x, l.idxOf x, nv x, rfl, rfl, ex_l (x1.trans (x2.trans x3)) hl, rfl, fl, by rw [getN i1, i2], by show ((x : Int) == (x : Int)) = true; exact beq_self_eq_true _, fun m z' hm hz => ?_, k H3 (x2.trans x3)⟩
  have hml : m < l.length := by omega
  rw [getN hml] at hz
  rw [← Option.some.inj hz]
  show (((l.getD m 0 : Nat) : Int) == (x : Int)) = false
  rw [beq_eq_false_iff_ne]
  intro e
  have e : l.getD m 0 = x := Int.ofNat.inj e
  exact idx_before l x m hm e
end
def spLawPair (K : PySem.W.Frag) (T : List (Addr × Str)) : Sp := fun vs H Q _ => ∃ r : Int, vs = [.int r] ∧ Tabs T H ∧
  ∀ (o q u d : List Nat) (pt p1 p2 p3 p4 : Addr) (H2 : Hp), PairOk o q u d → ExtN H H2 → Tabs T H2 → H2 pt = some (.tup [.ref p1, .ref p2, .ref p3, .ref p4]) → SqT K H2 p1 (o.map nv) → SqT K H2 p2 (q.map nv) → SqL K H2 p3 (u.map nv) → SqL K H2 p4 (d.map nv) → Q (.ref pt) H2
abbrev s_law_pair : Stmt := topS 30
theorem sc_law_pair : FnScope ["_law_rest", "_law_one", "_law_other", "_law_up", "_law_down", "_law_row", "_law_closed", "_law_thing", "_law_place"] ["_law_rest"] (defScope s_law_pair) := ⟨rfl, rfl, rfl, by decide +kernel, rfl, by decide +kernel, by decide +kernel⟩
section
variable {P : Program} {w : World} {K : PySem.W.Frag} {mg : Str → Option Value} {base : Heap} {c : Addr} {T : List (Addr × Str)}
theorem ok_law_pair (B : Bt mg) (h_law_ended : Has P w K mg base "_law_ended" 1 ["_law_order_here", "_law_cell_here"] (spEnded K)) (h_law_order : Has P w K mg base "_law_order" 2 ["_law_cell_here", "_law_many"] spOrder)
    (h_law_turn : Has P w K mg base "_law_turn" 1 ["_law_cell_here", "_law_k"] spTurn) (h_law_way : Has P w K mg base "_law_way" 5 ["_law_one", "_law_other", "_law_cell_here"] (spWay K T)) (h_law_back : Has P w K mg base "_law_back" 2 ["_law_one", "_law_other", "_law_up"] (spBack K))
    (h_law_closing : Has P w K mg base "_law_closing" 5 ["_law_order_here", "_law_cell_here"] (spClosing K T)) (h_kept_to : Has P w K mg base "kept_to" 2 ["order", "mask"] (spKept K))
    (D : Df K mg "_law_pair" s_law_pair c) : Has P w K mg base "_law_pair" 6 ["_law_rest"] (spLawPair K T) := by
  refine D.has sc_law_pair (fun vs H Q E h => ?_) (fun _ _ _ _ _ _ us hl => match us, hl with | [_], _ => rfl) (fun f A outer s H vs Q E hr h => ?_)
  · obtain ⟨r, rfl, _⟩ := h
    rfl
  · obtain ⟨r, rfl, hT, k⟩ := h
    refine ⟨_, (pss_cons (ps_set (i := 1) sc_law_pair.nd rfl (.inl rfl) (pe_has h_law_ended (hr.mono (by decide)) (by rfl) (pa_cons (pe_has h_law_order (hr.mono (by decide)) (by rfl) (pa_cons (pe_op op_fdiv (pv 0) pe_int) (pa_cons (pe_op op_add pe_int (pe_op op_mod (pv 0) pe_int)) pa_nil))) (pa_cons (pe_has h_law_turn (hr.mono (by decide)) (by rfl) (pa_cons (pv 0) (pa_cons pe_int pa_nil))) pa_nil))))
  (pss_cons (ps_set (i := 2) sc_law_pair.nd rfl (.inl rfl) (pe_has h_law_ended (hr.mono (by decide)) (by rfl) (pa_cons (pe_has h_law_order (hr.mono (by decide)) (by rfl) (pa_cons (pe_has h_law_turn (hr.mono (by decide)) (by rfl) (pa_cons (pv 0) (pa_cons pe_int pa_nil))) (pa_cons (pe_op op_add pe_int (pe_op op_mod (pe_op op_fdiv (pv 0) pe_int) pe_int)) pa_nil))) (pa_cons (pe_has h_law_turn (hr.mono (by decide)) (by rfl) (pa_cons (pv 0) (pa_cons pe_int pa_nil))) pa_nil))))
  (pss_cons (ps_set (i := 3) sc_law_pair.nd rfl (.inl rfl) (pe_has h_law_way (hr.mono (by decide)) (by rfl) (pa_cons (pv 1) (pa_cons (pv 2) (pa_cons (pe_has h_law_turn (hr.mono (by decide)) (by rfl) (pa_cons (pv 0) (pa_cons pe_int pa_nil))) pa_nil)))))
  (pss_cons (ps_set (i := 4) sc_law_pair.nd rfl (.inl rfl) (pe_has h_law_back (hr.mono (by decide)) (by rfl) (pa_cons (pv 1) (pa_cons (pv 2) (pa_cons (pv 3) pa_nil)))))
  (pss_cut (ps_if (pt_cmpR (inK K rfl) pe_non (pv 4) (by rfl))
    (pss_cons (ps_set (i := 5) sc_law_pair.nd rfl (.inr rfl) (pe_has h_law_closing (hr.mono (by decide)) (by rfl) (pa_cons (pv 1) (pa_cons (pe_has h_law_turn (hr.mono (by decide)) (by rfl) (pa_cons (pv 0) (pa_cons pe_int pa_nil))) pa_nil))))
    (pss_cons (ps_set (i := 6) sc_law_pair.nd rfl (.inr rfl) (pe_lc (own := [("_law_thing", 7)]) (g := gName 7) rfl sc_law_pair.nd (pi_range1 (by rfl) B.range_ (pa_cons (pe_callB (lenK K rfl) (by rfl) B.len_ boot_len (pa_cons (pv 1) pa_nil)) pa_nil)) (blkOk_by (by kernel_rfl)) (fun _ _ _ _ _ => pg_name (i := 7) sc_law_pair.nd rfl (.inl rfl)) (fun _ _ _ _ _ => (pts_one (pt_cmpR op_eq (pe_ix (ixL K rfl) (pv 5) (pv 7) (fun _ _ => rfl)) (pv 7) (nomark _)))) (fun _ _ _ _ _ => (pv 7))))
    (pss_cons (ps_set (i := 2) sc_law_pair.nd rfl (.inl rfl) (pe_has h_kept_to (hr.mono (by decide)) (by rfl) (pa_cons (pv 1) (pa_cons (pe_callB (sumK K rfl rfl) (by rfl) B.sum_ bb_sum (pa_cons (pe_lc (own := [("_law_thing", 7)]) (g := gName 7) rfl sc_law_pair.nd (listK K rfl (pv 6)) (blkOk_by (by kernel_rfl)) (fun _ _ _ _ _ => pg_name (i := 7) sc_law_pair.nd rfl (.inl rfl)) (fun _ _ _ _ _ => pts_nil) (fun _ _ _ _ _ => (pe_op op_shl pe_int (pv 7)))) pa_nil)) pa_nil))))
    (pss_cons (ps_setLc (i := 3) (own := [("_law_place", 8)]) (g := gName 8) rfl sc_law_pair.nd rfl rfl (sw_true rfl rfl rfl (by decide +kernel)) (listK K rfl (pv 5)) (blkOk_by (by kernel_rfl)) (fun _ _ _ _ _ => pg_name (i := 8) sc_law_pair.nd rfl (.inl rfl)) (fun _ _ _ _ _ => pts_nil) (fun _ _ _ _ _ => (bmK K rfl PySem.F.plainAttrs_list PySem.F.slot_list_index PySem.F.type_list_index (idxK K rfl) (pv 6) (pa_cons (pv 8) pa_nil))))
    (pss_one (ps_set (i := 4) sc_law_pair.nd rfl (.inl rfl) (pv 6)))))))
    pss_nil)
  (pss_one (ps_ret (pe_tup (pa_cons (pv 1) (pa_cons (pv 2) (pa_cons (pv 3) (pa_cons (pv 4) pa_nil))))))))))))
      , ?_⟩
    obtain ⟨n1, e1, n1l, n1h⟩ : ∃ n : Nat, 1 + r % 5 = (n : Int) ∧ 1 ≤ n ∧ n ≤ 5 := by
      have := mod_lt r (b := 5) (by decide)
      exact ⟨(1 + r % 5).toNat, by omega, by omega, by omega⟩
    obtain ⟨n2, e2, n2l, n2h⟩ : ∃ n : Nat, 1 + r / 5 % 5 = (n : Int) ∧ 1 ≤ n ∧ n ≤ 5 := by
      have := mod_lt (r / 5) (b := 5) (by decide)
      exact ⟨(1 + r / 5 % 5).toNat, by omega, by omega, by omega⟩
    -- one
    refine q_asgT (call_unf (arg_call (vs := [.int (r / 25), nv n1]) (ea_cons (ev_op (ev_var rfl) ev_c (rv_I ⟨by decide, by decide⟩)) (ea_cons (ev_is (ev_op ev_c (ev_op (ev_var rfl) ev_c (rv_I (by show (0 : Int) < 5; decide))) rv_I0) (congrArg V.int e1)) ea_nil)) fun H1 x1 => ⟨_, n1, rfl, n1l, n1h, fun o1 io1 ol1 po1 H2 _ x2 h2 => ?_⟩))
    refine arg_call (vs := [.int r, .int 41]) (ea_cons (ev_var rfl) (ea_cons ev_c ea_nil)) fun H3 x3 => ⟨r, 41, rfl, by omega, by omega, fun t1 _ _ H4 x4 => ?_⟩
    refine ⟨po1, o1, t1, rfl, .inl (.inl (x4 _ _ (x3 _ _ h2))), io1, by omega, fun p1 o H5 io x5 ho => ?_⟩
    have y5 : Evl.Ex H H5 := x1.trans (x2.trans (x3.trans (x4.trans x5)))
    -- other
    refine q_asgT (call_unf (arg_unf (arg_call (vs := [.int r, .int 42]) (ea_cons (ev_var rfl) (ea_cons ev_c ea_nil)) fun H6 x6 => ⟨r, 42, rfl, by omega, by omega, fun t2 _ _ H7 x7 => ?_⟩)))
    refine arg_ev (x := nv n2) (ev_is (ev_op ev_c (ev_op (ev_op (ev_var rfl) ev_c (rv_I ⟨by decide, by decide⟩)) ev_c (rv_I (by show (0 : Int) < 5; decide))) rv_I0) (congrArg V.int e2)) fun H8 x8 => ⟨t2, n2, rfl, n2l, n2h, fun o2 io2 ol2 po2 H9 _ x9 h9 => ?_⟩
    refine arg_call (vs := [.int r, .int 43]) (ea_cons (ev_var rfl) (ea_cons ev_c ea_nil)) fun H10 x10 => ⟨r, 43, rfl, by omega, by omega, fun t3 _ _ H11 x11 => ?_⟩
    refine ⟨po2, o2, t3, rfl, .inl (.inl (x11 _ _ (x10 _ _ h9))), io2, by omega, fun p2 q H12 iq x12 hq => ?_⟩
    have z12 : Evl.Ex H5 H12 := x6.trans (x7.trans (x8.trans (x9.trans (x10.trans (x11.trans x12)))))
    have ho12 := ex_t z12 ho
    have T12 : Tabs T H12 := hT.ext (y5.trans z12)
    -- up
    refine q_asgT (call_unf ⟨.ref p1, rfl, .ref p2, rfl, arg_call (vs := [.int r, .int 44]) (ea_cons (ev_var rfl) (ea_cons ev_c ea_nil)) fun H13 x13 => ⟨r, 44, rfl, by omega, by omega, fun t4 _ _ H14 x14 => ?_⟩⟩)
    refine ⟨p1, p2, o, q, t4, rfl, ex_t (x13.trans x14) ho12, ex_t (x13.trans x14) hq, io, iq, T12.ext (x13.trans x14), fun u p3 H15 wy x15 T15 hu => ?_⟩
    have ho15 := extT ((ext_ex (x13.trans x14)).trans x15) ho12
    have hq15 := extT ((ext_ex (x13.trans x14)).trans x15) hq
    have y15 : ExtN H H15 := (ext_ex (y5.trans (z12.trans (x13.trans x14)))).trans x15
    have n7 := io.top
    have m7 := iq.top
    -- down
    refine q_asgT (call_unf ⟨.ref p1, rfl, .ref p2, rfl, .ref p3, rfl, p1, p2, p3, o, q, u, rfl, ho15, hq15, .inl (.inl hu), by omega, by omega, wy.len, fun d bok pd H16 hpd x16 hd => ?_⟩)
    refine q_cut (M := fun σ H' => ∃ (q2 u2 d2 : List Nat) (b2 b3 b4 : Addr) (y5 y6 y7 y8 : Option V), σ = [some (.int r), some (.ref p1), some (.ref b2), some (.ref b3), some (.ref b4), y5, y6, y7, y8] ∧ PairOk o q2 u2 d2 ∧ ExtN H H' ∧ Tabs T H' ∧ SqT K H' p1 (o.map nv) ∧ SqT K H' b2 (q2.map nv) ∧ SqL K H' b3 (u2.map nv) ∧ SqL K H' b4 (d2.map nv)) ?_ fun σ H' hM => ?_
    · refine s_when (et_test (rv_test (K := K) (p := pd) (xs := d.map ov) (.inl (.inl hd)) (ov_flat d))) (fun hb H17 x17 => ?_) (fun hb H17 x17 => ?_)
      · -- a closing
        refine q_asgT (call_unf ⟨.ref p1, rfl, arg_call (vs := [.int r, .int 45]) (ea_cons (ev_var rfl) (ea_cons ev_c ea_nil)) fun H18 x18 => ⟨r, 45, rfl, by omega, by omega, fun t5 _ _ H19 x19 => ?_⟩⟩)
        have w19 : Evl.Ex H15 H19 := x16.trans (x17.trans (x18.trans x19))
        refine ⟨p1, o, t5, rfl, ex_t w19 ho15, io, T15.ext w19, fun cr p5 H20 C x20 T20 hc20 => ?_⟩
        have ho20 := extT ((ext_ex w19).trans x20) ho15
        have y20 : ExtN H H20 := y15.trans ((ext_ex w19).trans x20)
        have hr : cr.length = o.length := C.len
        have P := pair_clos io C
        -- closed
        refine q_asgL (xs := (closd o cr).map nv) ?_ fun p6 H21 hp6 x21 h21 => ?_
        · refine el_lcR1 (n := (o.length : Int)) (fun t => cr.getD t 0 == t) nv (ea_cons (ev_is (ev_lenT (ev_var rfl) ho20) (by rw [List.length_map])) ea_nil) (by omega) (fun x => rfl) (fun t H21 x21 ht => ?_) (fun t H21 x21 ht _ => ev_var rfl)
          exact et_eqN (ev_ixL (ev_var rfl) (ev_var rfl) (.inl (.inl (x21 _ _ hc20))) (getN (by omega))) (ev_var rfl)
        · have ho21 := ex_t x21 ho20
          have clow : ∀ t ∈ closd o cr, t < o.length := fun t ht => (mem_closd.mp ht).1
          -- other
          refine q_asgT (call_unf ⟨.ref p1, rfl, arg_ev (x := nv (maskOf (closd o cr))) ?_ fun H22 x22 => ?_⟩)
          · have es := mask_sum (fun t => cr.getD t 0 == t) o.length
            refine ev_is (ev_sum (K := K) (ns := (closd o cr).map fun t => ((1 <<< t : Nat) : Int)) ?_) (congrArg V.int es)
            rw [List.map_map, map_getD, ← given_all, show (closd o cr).length = ((closd o cr).map nv).length by rw [List.length_map]]
            refine el_lcL (K := K) (a := p6) (xs := (closd o cr).map nv) (fun _ => true) _ (ev_var rfl) (.inl (.inl h21)) ?_ (fun x => rfl) (fun j x H22 x22 hx => et_yes) (fun j x H22 x22 hx _ => ?_)
            · rw [List.length_map]
              have := List.length_filter_le (fun t => cr.getD t 0 == t) (List.range o.length)
              rw [List.length_range] at this
              show (List.filter _ _).length ≤ _
              omega
            · have hj : j < (closd o cr).length := by
                have := at_lt hx
                rw [List.length_map] at this
                exact this
              rw [getN hj] at hx
              obtain rfl := Option.some.inj hx
              have := clow _ (get_mem hj)
              refine ev_is (ev_op ev_c (ev_var rfl) (rv_I ⟨Int.natCast_nonneg _, by omega, by decide⟩)) ?_
              rw [shl_nat]
              rfl
          · have hmk : maskOf (closd o cr) < 65536 := by
              have h1 := maskOf_lt clow
              have h2 : (2 : Nat) ^ o.length ≤ 2 ^ 16 := Nat.pow_le_pow_right (by omega) (by omega)
              omega
            refine ⟨p1, o, maskOf (closd o cr), rfl, ex_t x22 ho21, hmk, fun t ht => ?_, fun b2 H23 hb2 x23 h23 => ?_⟩
            · rw [bits_closd (by omega)] at ht
              exact clow t ht
            · have h23c := x23 _ _ (x22 _ _ h21)
              have h23r := x23 _ _ (x22 _ _ (x21 _ _ hc20))
              -- up
              refine q_asgL (xs := (cr.map fun x => (closd o cr).idxOf x).map nv) ?_ fun b3 H24 hb3 x24 h24 => ?_
              · rw [List.map_map, map_getD, ← given_all, show cr.length = (cr.map nv).length by rw [List.length_map]]
                refine el_lcL (K := K) (a := p5) (xs := cr.map nv) (fun _ => true) _ (ev_var rfl) (.inl (.inl h23r)) (by rw [List.length_map]; omega) (fun x => rfl) (fun j x H24 x24 hx => et_yes) (fun j x H24 x24 hx _ => ?_)
                have hj : j < cr.length := by
                  have := at_lt hx
                  rw [List.length_map] at this
                  exact this
                rw [getN hj] at hx
                obtain rfl := Option.some.inj hx
                exact ev_index (ev_var rfl) (ev_var rfl) (.inl (.inl (x24 _ _ h23c))) (closd_in C (by omega))
              · refine s_asg (ev_var rfl) fun H25 x25 => ⟨_, _, _, b2, b3, p6, _, _, _, _, rfl, P, y20.trans (ext_ex (x21.trans (x22.trans (x23.trans (x24.trans x25))))), T20.ext (x21.trans (x22.trans (x23.trans (x24.trans x25)))), ex_t (x22.trans (x23.trans (x24.trans x25))) ho21, .inl (.inl (x25 _ _ (x24 _ _ h23))), .inl (.inl (x25 _ _ h24)), .inl (.inl (x25 _ _ (x24 _ _ h23c)))⟩
      · -- a way and its way back
        have hsome : ∀ x ∈ d, x ≠ none := fun x hx z => by
          rw [inV_none, List.any_eq_false] at hb
          exact hb x hx (by rw [z]; rfl)
        obtain ⟨P, ed⟩ := pair_back io iq wy bok hsome
        rw [ed] at hd
        exact ⟨q, u, _, p2, p3, pd, _, _, _, _, rfl, P, y15.trans (ext_ex (x16.trans x17)), T15.ext (x16.trans x17), ex_t (x16.trans x17) ho15, ex_t (x16.trans x17) hq15, .inl (.inl (x17 _ _ (x16 _ _ hu))), .inl (.inl (x17 _ _ hd))⟩
    · obtain ⟨q2, u2, d2, b2, b3, b4, z5, z6, z7, z8, rfl, P, yM, TM, hoM, hqM, huM, hdM⟩ := hM
      refine s_retU (eu_tup (ea_cons (ev_var rfl) (ea_cons (ev_var rfl) (ea_cons (ev_var rfl) (ea_cons (ev_var rfl) ea_nil)))) (by show 4 ≤ 100000; decide)) fun pt H30 hpt x30 h30 => ?_
      exact k o q2 u2 d2 pt p1 b2 b3 b4 H30 P (yM.trans (ext_ex x30)) (TM.ext x30) h30 (ex_t x30 hoM) (ex_t x30 hqM) (ex_l x30 huM) (ex_l x30 hdM)
end
end Sw
set_option Elab.async false
set_option linter.all false
set_option maxRecDepth 100000
set_option maxHeartbeats 4000000
/-! the law -/
namespace Sw
open PySem PySem.Spec PyProof.Rows L2 LamX NdefX SwK Evl
theorem ahead_one {n : Nat} {le : Nat → Nat → Bool} (O : Po n le) {M N : Nat → Nat → Int} (h : IsMu n le M) (k : IsMu n le N) (u : List Nat) {x : Nat} (hx : x < n) (y : Nat) : ahead n M u x y = ahead n N u x y :=
  S_congr fun a ha => by rw [mu_one O h k hx ha]
theorem back_one {n : Nat} {le : Nat → Nat → Bool} (O : Po n le) {M N : Nat → Nat → Int} (h : IsMu n le M) (k : IsMu n le N) (d : List Nat) (x : Nat) {y : Nat} (hy : y < n) : back n M d x y = back n N d x y :=
  S_congr fun b hb => by rw [mu_one O h k hb hy]
/-- both sums are one number -/
theorem PairOk.sums {o q u d : List Nat} (P : PairOk o q u d) {M N : Nat → Nat → Int} (hm : IsMu o.length (le o) M) (hn : IsMu q.length (le q) N) {x y : Nat} (hx : x < o.length) (hy : y < q.length) : back q.length N d x y = ahead o.length M u x y :=
  (galois P.io.po P.iq.po hm hn P.ult P.dlt P.adj hx hy).symm
theorem Mat.ext {n : Nat} {H H' : Hp} {as : List Addr} {M : Nat → Nat → Int} (m : Mat n H as M) (x : ExtN H H') : Mat n H' as M := ⟨m.1, fun i y e => ext_lst x (m.2 i y e)⟩
def spLaw (K : PySem.W.Frag) (T : List (Addr × Str)) : Sp := fun vs H Q _ => ∃ (a : Addr) (ns : List Int), vs = [.ref a] ∧ SqL K H a (ns.map V.int) ∧ ns.length ≤ 63 ∧ Tabs T H ∧ ∀ H', Q (.bl true) H'
/-- what stands in a turn of the law's loop -/
structure Hold (K : PySem.W.Frag) (T : List (Addr × Str)) (H : Hp) (a p1 p2 p3 p4 pF pS : Addr) (aF aS : List Addr) (ns : List Int) (o q u d : List Nat) (MF MS : Nat → Nat → Int) : Prop where
  tabs : Tabs T H
  scr : SqL K H a (ns.map V.int)
  one : SqT K H p1 (o.map nv)
  oth : SqT K H p2 (q.map nv)
  up : SqL K H p3 (u.map nv)
  dn : SqL K H p4 (d.map nv)
  f1 : H pF = some (.lst (aF.map V.ref))
  f2 : Mat o.length H aF MF
  s1 : H pS = some (.lst (aS.map V.ref))
  s2 : Mat q.length H aS MS
theorem Hold.ext {K : PySem.W.Frag} {T : List (Addr × Str)} {H H' : Hp} {a p1 p2 p3 p4 pF pS : Addr} {aF aS : List Addr} {ns : List Int} {o q u d : List Nat} {MF MS : Nat → Nat → Int} (h : Hold K T H a p1 p2 p3 p4 pF pS aF aS ns o q u d MF MS) (x : ExtN H H') (t : Tabs T H') :
    Hold K T H' a p1 p2 p3 p4 pF pS aF aS ns o q u d MF MS := ⟨t, extL x h.scr, extT x h.one, extT x h.oth, extL x h.up, extL x h.dn, ext_lst x h.f1, h.f2.ext x, ext_lst x h.s1, h.s2.ext x⟩
theorem Hold.ex {K : PySem.W.Frag} {T : List (Addr × Str)} {H H' : Hp} {a p1 p2 p3 p4 pF pS : Addr} {aF aS : List Addr} {ns : List Int} {o q u d : List Nat} {MF MS : Nat → Nat → Int} (h : Hold K T H a p1 p2 p3 p4 pF pS aF aS ns o q u d MF MS) (x : Evl.Ex H H') :
    Hold K T H' a p1 p2 p3 p4 pF pS aF aS ns o q u d MF MS := h.ext (ext_ex x) (h.tabs.ext x)
theorem q_asgG {te : TE} {g : TG} {tz : TS} {D : Ends} {σ : L2.St} {H : Hp} (h : te σ H fun v H1 => g v σ H1 (tz D)) : tSeq (tAsg te g) tz D σ H := h
abbrev s_law : Stmt := topS 32
theorem sc_law : FnScope ["_law_script", "_law_folded", "_law_k", "_law_one", "_law_other", "_law_up", "_law_down", "_law_first", "_law_second", "_law_x", "_law_y", "_law_due", "_law_a", "_law_found", "_law_back_here", "_law_b"] ["_law_script"] (defScope s_law) := ⟨rfl, rfl, rfl, by decide +kernel, rfl, by decide +kernel, by decide +kernel⟩
section
variable {P : Program} {w : World} {K : PySem.W.Frag} {mg : Str → Option Value} {base : Heap} {c : Addr} {T : List (Addr × Str)}
theorem ev_whole {σ : L2.St} {H : Hp} {ta : TE} {E : XK} {i : Int} (h : Ev ta σ H (.int i)) : Ev (tCall spWholeI [] E (tCons ta tNil)) σ H (.bl true) := ev_call (ea_cons h ea_nil) fun H1 x1 Q k E => ⟨i, rfl, fun H2 x2 => k H2 x2⟩
theorem ne_int (i : Int) : (!decide (V.int i = V.int i)) = false := by rw [decide_eq_true rfl]; rfl
theorem ok_law (B : Bt mg) (h_law_whole_cell : Has P w K mg base "_law_whole_cell" 1 ["_law_script"] (spWholeCell K)) (h_law_cell : Has P w K mg base "_law_cell" 1 ["_law_script", "_law_k"] (spCell K)) (h_law_turn : Has P w K mg base "_law_turn" 1 ["_law_cell_here", "_law_k"] spTurn)
    (h_law_pair : Has P w K mg base "_law_pair" 6 ["_law_rest"] (spLawPair K T)) (h_law_signs : Has P w K mg base "_law_signs" 1 ["_law_order_here"] (spLawSigns K)) (h_is_pair : Has P w K mg base "is_pair" 1 ["one", "other", "up", "down"] (spIsPair K))
    (h_sum_ahead : Has P w K mg base "sum_ahead" 8 ["one", "other", "up", "x", "y"] (spAhead K T)) (h_sum_back : Has P w K mg base "sum_back" 8 ["one", "other", "down", "x", "y"] (spSumBack K T)) (h_law_whole : Has P w K mg base "_law_whole" 1 ["_law_found"] spWholeI)
    (D : Df K mg "law" s_law c) : Has P w K mg base "law" 9 ["_law_script"] (spLaw K T) := by
  refine D.has sc_law (fun vs H Q E h => ?_) (fun _ _ _ _ _ _ us hl => match us, hl with | [_], _ => rfl) (fun f A outer s H vs Q E hr h => ?_)
  · obtain ⟨a, ns, rfl, _⟩ := h
    rfl
  · obtain ⟨a, ns, rfl, hS, hlen, hT, hQ⟩ := h
    refine ⟨_, (pss_cons (ps_set (i := 1) sc_law.nd rfl (.inl rfl) (pe_has h_law_whole_cell (hr.mono (by decide)) (by rfl) (pa_cons (pv 0) pa_nil)))
  (pss_cons (ps_for PassesOwn.never rfl (pi_range1 (by rfl) B.range_ (pa_cons (pe_callB (call_min2 rfl) (by rfl) B.min_ bb_min (pa_cons pe_int (pa_cons (pe_op op_add pe_int (pe_callB (lenK K rfl) (by rfl) B.len_ boot_len (pa_cons (pv 0) pa_nil))) pa_nil))) pa_nil)) (pg_name (i := 2) sc_law.nd rfl (.inl rfl))
    (pss_cons (ps_asg (pe_has h_law_pair (hr.mono (by decide)) (by rfl) (pa_cons (pe_has h_law_turn (hr.mono (by decide)) (by rfl) (pa_cons (pe_op op_add (pv 1) (pe_has h_law_cell (hr.mono (by decide)) (by rfl) (pa_cons (pv 0) (pa_cons (pv 2) pa_nil)))) (pa_cons (pv 2) pa_nil))) pa_nil)) (pg_tup rfl (pgs_cons (pg_name (i := 3) sc_law.nd rfl (.inl rfl)) (pgs_cons (pg_name (i := 4) sc_law.nd rfl (.inl rfl)) (pgs_cons (pg_name (i := 5) sc_law.nd rfl (.inr rfl)) (pgs_cons (pg_name (i := 6) sc_law.nd rfl (.inr rfl)) pgs_nil))))))
    (pss_cons (ps_set (i := 7) sc_law.nd rfl (.inr rfl) (pe_has h_law_signs (hr.mono (by decide)) (by rfl) (pa_cons (pv 3) pa_nil)))
    (pss_cons (ps_set (i := 8) sc_law.nd rfl (.inr rfl) (pe_has h_law_signs (hr.mono (by decide)) (by rfl) (pa_cons (pv 4) pa_nil)))
    (pss_cons (ps_if (pt_not (pt_val (pe_has h_is_pair (hr.mono (by decide)) (by rfl) (pa_cons (pv 3) (pa_cons (pv 4) (pa_cons (pv 5) (pa_cons (pv 6) pa_nil)))))))
      (pss_one (ps_ret pe_bl))
      pss_nil)
    (pss_one (ps_for PassesOwn.never rfl (pi_range1 (by rfl) B.range_ (pa_cons (pe_callB (lenK K rfl) (by rfl) B.len_ boot_len (pa_cons (pv 3) pa_nil)) pa_nil)) (pg_name (i := 9) sc_law.nd rfl (.inr rfl))
      (pss_one (ps_for PassesOwn.never rfl (pi_range1 (by rfl) B.range_ (pa_cons (pe_callB (lenK K rfl) (by rfl) B.len_ boot_len (pa_cons (pv 4) pa_nil)) pa_nil)) (pg_name (i := 10) sc_law.nd rfl (.inr rfl))
        (pss_cons (ps_set (i := 11) sc_law.nd rfl (.inl rfl) (pe_callB (sumK K rfl rfl) (by rfl) B.sum_ bb_sum (pa_cons (pe_lc (own := [("_law_a", 12)]) (g := gName 12) rfl sc_law.nd (pi_range1 (by rfl) B.range_ (pa_cons (pe_callB (lenK K rfl) (by rfl) B.len_ boot_len (pa_cons (pv 3) pa_nil)) pa_nil)) (blkOk_by (by kernel_rfl)) (fun _ _ _ _ _ => pg_name (i := 12) sc_law.nd rfl (.inl rfl)) (fun _ _ _ _ _ => (pts_one (pt_cmpR op_eq (pe_ix (ixL K rfl) (pv 5) (pv 12) (fun _ _ => rfl)) (pv 10) (nomark _)))) (fun _ _ _ _ _ => (pe_ix (ixL K rfl) (pe_ix (ixL K rfl) (pv 7) (pv 9) (fun _ _ => rfl)) (pv 12) (fun _ _ => rfl)))) pa_nil)))
        (pss_cons (ps_set (i := 13) sc_law.nd rfl (.inl rfl) (pe_has h_sum_ahead (hr.mono (by decide)) (by rfl) (pa_cons (pv 3) (pa_cons (pv 4) (pa_cons (pv 5) (pa_cons (pv 9) (pa_cons (pv 10) pa_nil)))))))
        (pss_cons (ps_set (i := 14) sc_law.nd rfl (.inl rfl) (pe_has h_sum_back (hr.mono (by decide)) (by rfl) (pa_cons (pv 3) (pa_cons (pv 4) (pa_cons (pv 6) (pa_cons (pv 9) (pa_cons (pv 10) pa_nil)))))))
        (pss_cons (ps_if (PW.pt (pw_or (pt_not (pt_val (pe_has h_law_whole (hr.mono (by decide)) (by rfl) (pa_cons (pv 13) pa_nil)))) (pw_or (pt_not (pt_val (pe_has h_law_whole (hr.mono (by decide)) (by rfl) (pa_cons (pv 14) pa_nil)))) (pw_or (pt_cmpR op_ne (pv 13) (pv 11) (nomark _)) (pw_or1 (pt_cmpR op_ne (pv 14) (pv 13) (nomark _)))))))
          (pss_one (ps_ret pe_bl))
          pss_nil)
        (pss_one (ps_if (pt_cmpR op_ne (pv 14) (pe_callB (sumK K rfl rfl) (by rfl) B.sum_ bb_sum (pa_cons (pe_lc (own := [("_law_b", 15)]) (g := gName 15) rfl sc_law.nd (pi_range1 (by rfl) B.range_ (pa_cons (pe_callB (lenK K rfl) (by rfl) B.len_ boot_len (pa_cons (pv 4) pa_nil)) pa_nil)) (blkOk_by (by kernel_rfl)) (fun _ _ _ _ _ => pg_name (i := 15) sc_law.nd rfl (.inl rfl)) (fun _ _ _ _ _ => (pts_one (pt_cmpR op_eq (pe_ix (ixL K rfl) (pv 6) (pv 15) (fun _ _ => rfl)) (pv 9) (nomark _)))) (fun _ _ _ _ _ => (pe_ix (ixL K rfl) (pe_ix (ixL K rfl) (pv 8) (pv 15) (fun _ _ => rfl)) (pv 10) (fun _ _ => rfl)))) pa_nil)) (nomark _))
          (pss_one (ps_ret pe_bl))
          pss_nil)))))))))))))))
  (pss_one (ps_ret pe_bl))))
      , ?_⟩
    -- folded
    refine q_asgT (call_unf ⟨.ref a, rfl, a, ns, rfl, hS, by omega, fun fo H1 x1 => ?_⟩)
    obtain ⟨n, en, nl, nh⟩ : ∃ n : Nat, (if 1 + (ns.length : Int) < 5 then 1 + (ns.length : Int) else 5) = (n : Int) ∧ 1 ≤ n ∧ n ≤ 5 := by
      split
      · exact ⟨1 + ns.length, by omega, by omega, by omega⟩
      · exact ⟨5, rfl, by omega, by omega⟩
    refine q_forR1 (n := (n : Int)) (ea_cons (ev_is (ev_cb (vs := [.int 5, .int (1 + (ns.length : Int))]) (ea_cons ev_c (ea_cons (ev_op ev_c (ev_is (ev_len (K := K) (ev_var rfl) (ex_l x1 hS)) (by rw [List.length_map])) rv_I0) ea_nil)) fun H2 x2 Q k => ⟨5, _, rfl, k H2 (Evl.Ex.refl _)⟩) (congrArg V.int en)) ea_nil) (by omega)
      (fun i σ H' => ∃ y2 y3 y4 y5 y6 y7 y8 y9 y10 y11 y12 y13 y14 y15 : Option V, σ = [some (.ref a), some (.int fo), y2, y3, y4, y5, y6, y7, y8, y9, y10, y11, y12, y13, y14, y15] ∧ ExtN H H' ∧ Tabs T H')
      (fun H2 x2 => ⟨none, none, none, none, none, none, none, none, none, none, none, none, none, none, rfl, ext_ex (x1.trans x2), hT.ext (x1.trans x2)⟩) (fun i σ H' hi hP => ?_) (fun σ H' hP => ?_)
    · obtain ⟨y2, y3, y4, y5, y6, y7, y8, y9, y10, y11, y12, y13, y14, y15, rfl, x2, T2⟩ := hP
      have hS2 := extL x2 hS
      refine q_asgG (call_unf (arg_unf ⟨.int fo, rfl, .ref a, rfl, nv i, rfl, a, ns, i, rfl, hS2, fun rc H3 x3 => ⟨_, _, rfl, rfl, nv i, rfl, _, (i : Int), rfl, by omega, by omega, fun t _ _ H4 x4 => ?_⟩⟩))
      refine ⟨t, rfl, T2.ext (x3.trans x4), fun o q u d pt p1 p2 p3 p4 H5 Pk x5 T5 hpt ho hq hu hd => ?_⟩
      refine ⟨pt, [.ref p1, .ref p2, .ref p3, .ref p4], rfl, .inl (.inl hpt), rfl, .ref p1, _, rfl, .ref p2, _, rfl, .ref p3, _, rfl, .ref p4, [], rfl, rfl, ?_⟩
      have n7 := Pk.io.top
      have m7 := Pk.iq.top
      have x5' : ExtN H H5 := (x2.trans (ext_ex (x3.trans x4))).trans x5
      have hS5 := extL x5' hS
      -- first, second
      refine q_asgT (call_unf ⟨.ref p1, rfl, p1, o, rfl, ho, Pk.io, fun pF H6 aF MF _ x6 hF mF muF => ?_⟩)
      refine q_asgT (call_unf ⟨.ref p2, rfl, p2, q, rfl, ex_t x6 hq, Pk.iq, fun pS H7 aS MS _ x7 hS7 mS muS => ?_⟩)
      have hold : Hold K T H7 a p1 p2 p3 p4 pF pS aF aS ns o q u d MF MS := ⟨T5.ext (x6.trans x7), ex_l (x6.trans x7) hS5, ex_t (x6.trans x7) ho, ex_t (x6.trans x7) hq, ex_l (x6.trans x7) hu, ex_l (x6.trans x7) hd, x7 _ _ hF, mF.ex x7, hS7, mS⟩
      have x7' : ExtN H H7 := x5'.trans (ext_ex (x6.trans x7))
      -- is_pair
      refine q_when (b := false) (et_is (et_not (et_B (ev_call (sp := spIsPair K) (vs := [.ref p1, .ref p2, .ref p3, .ref p4]) (z := .bl true) (ea_cons (ev_var rfl) (ea_cons (ev_var rfl) (ea_cons (ev_var rfl) (ea_cons (ev_var rfl) ea_nil)))) fun H8 x8 Q' k E => ?_))) rfl) (fun z => by cases z) (fun _ H8 x8 => ?_)
      · have h8 := hold.ex x8
        exact ⟨p1, p2, p3, p4, o, q, u, d, rfl, h8.one, h8.oth, h8.up, h8.dn, by omega, by omega, Pk.ul, Pk.dl, Pk.dlt, Pk.adj, fun H9 x9 => k H9 x9⟩
      · have h8 := hold.ex x8
        have x8' := x7'.trans (ext_ex x8)
        refine s_forR1 (n := (o.length : Int)) (ea_cons (ev_is (ev_lenT (K := K) (ev_var rfl) h8.one) (by rw [List.length_map])) ea_nil) (by omega)
          (fun x σ H' => ∃ y9 y10 y11 y12 y13 y14 y15 : Option V, σ = [some (.ref a), some (.int fo), some (nv i), some (.ref p1), some (.ref p2), some (.ref p3), some (.ref p4), some (.ref pF), some (.ref pS), y9, y10, y11, y12, y13, y14, y15] ∧ ExtN H H' ∧ Hold K T H' a p1 p2 p3 p4 pF pS aF aS ns o q u d MF MS)
          (fun H9 x9 => ⟨_, _, _, _, _, _, _, rfl, x8'.trans (ext_ex x9), h8.ex x9⟩) (fun x σ H' hx hP => ?_) (fun σ H' hP => ?_)
        · obtain ⟨y9, y10, y11, y12, y13, y14, y15, rfl, x9, h9⟩ := hP
          have hx : x < o.length := by omega
          refine s_forR1 (n := (q.length : Int)) (ea_cons (ev_is (ev_lenT (K := K) (ev_var rfl) h9.oth) (by rw [List.length_map])) ea_nil) (by omega)
            (fun y σ H' => ∃ y10 y11 y12 y13 y14 y15 : Option V, σ = [some (.ref a), some (.int fo), some (nv i), some (.ref p1), some (.ref p2), some (.ref p3), some (.ref p4), some (.ref pF), some (.ref pS), some (nv x), y10, y11, y12, y13, y14, y15] ∧ ExtN H H' ∧ Hold K T H' a p1 p2 p3 p4 pF pS aF aS ns o q u d MF MS)
            (fun H10 x10 => ⟨_, _, _, _, _, _, rfl, x9.trans (ext_ex x10), h9.ex x10⟩) (fun y σ H' hy hP => ?_) (fun σ H' hP => ?_)
          · obtain ⟨y10, y11, y12, y13, y14, y15, rfl, x10, h10⟩ := hP
            have hy : y < q.length := by omega
            -- due
            refine q_asg (v := .int (ahead o.length MF u x y)) (ev_is (ev_sum (K := K) (ns := ((List.range o.length).filter fun a => u.getD a 0 == y).map (MF x)) ?_) ?_) fun H11 x11 => ?_
            · rw [← rowV_sum]
              obtain ⟨px, _, px1, px2⟩ := h10.f2.at hx
              refine el_lcR1 (n := (o.length : Int)) (fun a => u.getD a 0 == y) (fun a => V.int (MF x a)) (ea_cons (ev_is (ev_lenT (K := K) (ev_var rfl) h10.one) (by rw [List.length_map])) ea_nil) (by omega) (fun x => rfl) (fun a H11 x11 ha => ?_) (fun a H11 x11 ha _ => ?_)
              · exact et_eqN (ev_ixL (ev_var rfl) (ev_var rfl) (ex_l x11 h10.up) (getN (by have := Pk.ul; omega))) (ev_var rfl)
              · exact ev_ixL (ev_ixL (ev_var rfl) (ev_var rfl) (.inl (.inl (x11 _ _ h10.f1))) px1) (ev_var rfl) (.inl (.inl (x11 _ _ px2))) (rowV_at _ (by omega))
            · rw [sum_range (MF x) (fun a => u.getD a 0 == y)]
              unfold ahead
              refine congrArg V.int (S_congr fun a _ => ?_)
              by_cases e : u.getD a 0 = y
              · rw [if_pos e, if_pos (beq_iff_eq.mpr e)]
              · rw [if_neg e, if_neg fun z => e (beq_iff_eq.mp z)]
            · have h11 := h10.ex x11
              -- found
              refine q_asgT (call_unf ⟨.ref p1, rfl, .ref p2, rfl, .ref p3, rfl, nv x, rfl, nv y, rfl, p1, p3, .ref p2, o, u, x, y, rfl, h11.one, h11.up, Pk.io, Pk.ul, hx, h11.tabs, fun M1 H12 mu1 x12 T12 => ?_⟩)
              rw [ahead_one Pk.io.po mu1 muF u hx y]
              have h12 := h11.ext x12 T12
              -- back_here
              refine q_asgT (call_unf ⟨.ref p1, rfl, .ref p2, rfl, .ref p4, rfl, nv x, rfl, nv y, rfl, p2, p4, .ref p1, q, d, x, y, rfl, h12.oth, h12.dn, Pk.iq, Pk.dl, hy, h12.tabs, fun M2 H13 mu2 x13 T13 => ?_⟩)
              rw [Pk.sums muF mu2 hx hy]
              have h13 := h12.ext x13 T13
              have x13' : ExtN H H13 := (x10.trans (ext_ex x11)).trans (x12.trans x13)
              have hsum := Pk.sums muF muS hx hy
              generalize ahead o.length MF u x y = Av at hsum ⊢
              refine q_when (b := false) (et_is (et_or (a := false) (et_is (et_not (et_B (ev_whole (ev_var rfl)))) rfl) fun _ => et_or (a := false) (et_is (et_not (et_B (ev_whole (ev_var rfl)))) rfl) fun _ => et_or (a := false) (et_is (et_test (ev_op (ev_var rfl) (ev_var rfl) (rv_ne rfl))) (ne_int Av)) fun _ => et_is (et_test (ev_op (ev_var rfl) (ev_var rfl) (rv_ne rfl))) (ne_int Av)) rfl) (fun z => by cases z) (fun _ H14 x14 => ?_)
              have h14 := h13.ex x14
              have x14' := x13'.trans (ext_ex x14)
              refine s_when (b := false) (et_is (et_test (ev_op (ev_var rfl) (ev_is (ev_sum (K := K) (ns := ((List.range q.length).filter fun b => d.getD b 0 == x).map fun b => MS b y) ?_) ?_) (rv_ne rfl))) (ne_int Av)) (fun z => by cases z) (fun _ H15 x15 => ⟨_, _, _, _, _, _, rfl, x14'.trans (ext_ex x15), h14.ex x15⟩)
              · rw [← rowV_sum]
                refine el_lcR1 (n := (q.length : Int)) (fun b => d.getD b 0 == x) (fun b => V.int (MS b y)) (ea_cons (ev_is (ev_lenT (K := K) (ev_var rfl) h14.oth) (by rw [List.length_map])) ea_nil) (by omega) (fun x => rfl) (fun b H15 x15 hb => ?_) (fun b H15 x15 hb _ => ?_)
                · exact et_eqN (ev_ixL (ev_var rfl) (ev_var rfl) (ex_l x15 h14.dn) (getN (by have := Pk.dl; omega))) (ev_var rfl)
                · obtain ⟨px, _, px1, px2⟩ := h14.s2.at (i := b) (by omega)
                  exact ev_ixL (ev_ixL (ev_var rfl) (ev_var rfl) (.inl (.inl (x15 _ _ h14.s1))) px1) (ev_var rfl) (.inl (.inl (x15 _ _ px2))) (rowV_at _ hy)
              · rw [sum_range (fun b => MS b y) (fun b => d.getD b 0 == x), ← hsum]
                unfold back
                refine congrArg V.int (S_congr fun b _ => ?_)
                by_cases e : d.getD b 0 = x
                · rw [if_pos e, if_pos (beq_iff_eq.mpr e)]
                · rw [if_neg e, if_neg fun z => e (beq_iff_eq.mp z)]
          · obtain ⟨y10, y11, y12, y13, y14, y15, rfl, x10, h10⟩ := hP
            exact ⟨_, _, _, _, _, _, _, rfl, x10, h10⟩
        · obtain ⟨y9, y10, y11, y12, y13, y14, y15, rfl, x9, h9⟩ := hP
          exact ⟨_, _, _, _, _, _, _, _, _, _, _, _, _, _, rfl, x9, h9.tabs⟩
    · obtain ⟨y2, y3, y4, y5, y6, y7, y8, y9, y10, y11, y12, y13, y14, y15, rfl, x2, T2⟩ := hP
      exact s_ret ev_c fun H3 x3 => hQ H3
end
end Sw
set_option Elab.async false
set_option linter.all false
set_option maxRecDepth 100000
set_option maxHeartbeats 0
/-! The head: what stands behind the top, by names; the promises put together. -/
namespace Sw
open PySem PySem.Spec PyProof.Rows L2 LamX NdefX SwK
def dd (x : Str) (st : Stmt) : He.DefD := ⟨(x, none), x, x, defArgs st, defBody st, defScope st, [], []⟩
def fnL : List He.DefD := [dd "things_in" s_things_in, dd "set_of" s_set_of, dd "many_in" s_many_in, dd "has_thing" s_has_thing, dd "kept_to" s_kept_to, dd "signs_from" s_signs_from, dd "signs_table" s_signs_table, dd "is_pair" s_is_pair, dd "sum_ahead" s_sum_ahead, dd "sum_back" s_sum_back, dd "_law_cell" s_law_cell, dd "_law_turn" s_law_turn, dd "_law_whole_cell" s_law_whole_cell, dd "_law_order" s_law_order, dd "_law_renumbered" s_law_renumbered, dd "_law_signs" s_law_signs, dd "_law_least" s_law_least, dd "_law_greatest" s_law_greatest, dd "_law_by_size" s_law_by_size, dd "_law_way" s_law_way, dd "_law_closing" s_law_closing, dd "_law_back" s_law_back, dd "_law_ended" s_law_ended, dd "_law_pair" s_law_pair, dd "_law_whole" s_law_whole, dd "law" s_law]
def faL : List He.Fa := [.glo "things_in", .glo "set_of", .glo "many_in", .glo "has_thing", .glo "kept_to", .glo "signs_from", .glo "signs_table", .glo "is_pair", .glo "sum_ahead", .glo "sum_back", .glo "_law_cell", .glo "_law_turn", .glo "_law_whole_cell", .glo "_law_order", .glo "_law_renumbered", .glo "_law_signs", .glo "_law_least", .glo "_law_greatest", .glo "_law_by_size", .glo "_law_way", .glo "_law_closing", .glo "_law_back", .glo "_law_ended", .glo "_law_pair", .glo "_law_whole", .glo "law", .free "len", .free "range", .free "sorted", .free "tuple", .free "sum", .free "all", .free "list", .free "reversed", .free "min", .free "isinstance", .free "int", .free "bool"]
def tfL : List He.Defn := [("signs_from", none), ("_law_by_size", none)]
def exL (K : PySem.W.Frag) : Bool := !((He.cT K ("signs_from", none)).2 == (He.cT K ("_law_by_size", none)).2)
abbrev Rw : PySem.W.OpenRow := PySem.W.OpenLaw.row PySem.Challenge.rw_sumsway_k62_whole_signs_over_a_pair
abbrev hkL : PySem.W.Hook := He.hookX 4 faL fnL [] tfL exL
def obL (s : PySem.W.SharedT) : He.AlX := He.obsX 4 faL fnL [] tfL exL (HandSHeadRun.getT s)
theorem obL_eq (s : PySem.W.SharedT) : obL s = hkL.obs s.abs := He.obsX_eq (HandSHeadRun.getT_eq s)
def looseL : List Str := ["things_in", "set_of", "many_in", "has_thing", "kept_to", "signs_from", "signs_table", "is_pair", "sum_ahead", "sum_back", "_law_cell", "_law_turn", "_law_whole_cell", "_law_order", "_law_renumbered", "_law_signs", "_law_least", "_law_greatest", "_law_by_size", "_law_way", "_law_is_way", "_law_closing", "_law_back", "_law_ahead", "_law_ended", "_law_pair", "_law_whole"]
theorem runL (w : World) : HandSHeadRun.RunEq Rw (PySem.W.view Rw.prog [32]) hkL obL 4000 looseL w := by
  intro os
  kernel_rfl
section
variable {P : Program} {w : World} {K : PySem.W.Frag} {mg : Str → Option Value} {h : Heap}
theorem df_of {x : Str} {st : Stmt} (c : He.SaysD faL fnL K) (i j : Nat) (X : K.In h) (G : h.Ns mainGlobals mg) (hi : fnL[i]? = some (dd x st) := by rfl) (hj : faL[j]? = some (.glo x) := by rfl) : Df K mg x st (He.codeOf K (x, none)) := by
  obtain ⟨fd, F⟩ := c.def_ i hi
  have g := He.glo_ok X G (c.fact j hj)
  obtain ⟨oc, od, dV, kV, doc, pm, an, cdv, ct, osl, e, lk, hcd, hD, _⟩ := F.ex
  obtain ⟨cc, rfl⟩ := He.codeIn_ref hcd
  have eD : dV = .none := by
    rcases hD with ⟨_, z⟩ | ⟨z, _⟩
    · exact z
    · exact absurd rfl z
  subst eD
  have ec : He.codeOf K (x, none) = cc := He.codeOf_eq lk (by rw [e] <;> rfl)
  rw [ec]
  refine ⟨He.ga K x, oc, kV, doc, pm, ct, od, an, osl, g, F.kp, hcd, ?_⟩
  rw [e] at lk
  exact lk
theorem bt_of (c : He.SaysD faL fnL K) (X : K.In h) (G : h.Ns mainGlobals mg) : Bt mg :=
  ⟨He.free_ok X G (c.fact 26 (f := .free "len") rfl), He.free_ok X G (c.fact 27 (f := .free "range") rfl), He.free_ok X G (c.fact 28 (f := .free "sorted") rfl), He.free_ok X G (c.fact 29 (f := .free "tuple") rfl), He.free_ok X G (c.fact 30 (f := .free "sum") rfl), He.free_ok X G (c.fact 31 (f := .free "all") rfl), He.free_ok X G (c.fact 32 (f := .free "list") rfl), He.free_ok X G (c.fact 33 (f := .free "reversed") rfl), He.free_ok X G (c.fact 34 (f := .free "min") rfl), He.free_ok X G (c.fact 35 (f := .free "isinstance") rfl), He.free_ok X G (c.fact 36 (f := .free "int") rfl), He.free_ok X G (c.fact 37 (f := .free "bool") rfl)⟩
/-- the law keeps its promise -/
theorem all_of {base : Heap} {ca cb tb tc : Addr} (c : He.SaysD faL fnL K) (X : K.In h) (G : h.Ns mainGlobals mg) (ea : He.codeOf K ("signs_from", none) = ca) (eb : He.codeOf K ("_law_by_size", none) = cb) (ne : tb ≠ tc) (TA : TabB base mg ca tb) (TC : TabB base mg cb tc) :
    Has P w K mg base "law" 9 ["_law_script"] (spLaw K [(tb, ("signs_from" : Str) ++ ".<locals>." ++ "<lambda>"), (tc, ("_law_by_size" : Str) ++ ".<locals>." ++ "<lambda>")]) := by
  have B := bt_of c X G
  subst ea eb
  have d_things_in : Df K mg "things_in" s_things_in _ := df_of c 0 0 X G
  have d_set_of : Df K mg "set_of" s_set_of _ := df_of c 1 1 X G
  have d_many_in : Df K mg "many_in" s_many_in _ := df_of c 2 2 X G
  have d_has_thing : Df K mg "has_thing" s_has_thing _ := df_of c 3 3 X G
  have d_kept_to : Df K mg "kept_to" s_kept_to _ := df_of c 4 4 X G
  have d_signs_from : Df K mg "signs_from" s_signs_from _ := df_of c 5 5 X G
  have d_signs_table : Df K mg "signs_table" s_signs_table _ := df_of c 6 6 X G
  have d_is_pair : Df K mg "is_pair" s_is_pair _ := df_of c 7 7 X G
  have d_sum_ahead : Df K mg "sum_ahead" s_sum_ahead _ := df_of c 8 8 X G
  have d_sum_back : Df K mg "sum_back" s_sum_back _ := df_of c 9 9 X G
  have d_law_cell : Df K mg "_law_cell" s_law_cell _ := df_of c 10 10 X G
  have d_law_turn : Df K mg "_law_turn" s_law_turn _ := df_of c 11 11 X G
  have d_law_whole_cell : Df K mg "_law_whole_cell" s_law_whole_cell _ := df_of c 12 12 X G
  have d_law_order : Df K mg "_law_order" s_law_order _ := df_of c 13 13 X G
  have d_law_renumbered : Df K mg "_law_renumbered" s_law_renumbered _ := df_of c 14 14 X G
  have d_law_signs : Df K mg "_law_signs" s_law_signs _ := df_of c 15 15 X G
  have d_law_least : Df K mg "_law_least" s_law_least _ := df_of c 16 16 X G
  have d_law_greatest : Df K mg "_law_greatest" s_law_greatest _ := df_of c 17 17 X G
  have d_law_by_size : Df K mg "_law_by_size" s_law_by_size _ := df_of c 18 18 X G
  have d_law_way : Df K mg "_law_way" s_law_way _ := df_of c 19 19 X G
  have d_law_closing : Df K mg "_law_closing" s_law_closing _ := df_of c 20 20 X G
  have d_law_back : Df K mg "_law_back" s_law_back _ := df_of c 21 21 X G
  have d_law_ended : Df K mg "_law_ended" s_law_ended _ := df_of c 22 22 X G
  have d_law_pair : Df K mg "_law_pair" s_law_pair _ := df_of c 23 23 X G
  have d_law_whole : Df K mg "_law_whole" s_law_whole _ := df_of c 24 24 X G
  have d_law : Df K mg "law" s_law _ := df_of c 25 25 X G
  have uA : ∀ p ∈ ([(tb, ("signs_from" : Str) ++ ".<locals>." ++ "<lambda>"), (tc, ("_law_by_size" : Str) ++ ".<locals>." ++ "<lambda>")] : List (Addr × Str)), p.1 = tb → p.2 = ("signs_from" : Str) ++ ".<locals>." ++ "<lambda>" := fun p hp e => by
    rcases List.mem_cons.mp hp with q | q
    · rw [q]
    · rw [List.mem_singleton.mp q] at e
      exact absurd e.symm ne
  have uC : ∀ p ∈ ([(tb, ("signs_from" : Str) ++ ".<locals>." ++ "<lambda>"), (tc, ("_law_by_size" : Str) ++ ".<locals>." ++ "<lambda>")] : List (Addr × Str)), p.1 = tc → p.2 = ("_law_by_size" : Str) ++ ".<locals>." ++ "<lambda>" := fun p hp e => by
    rcases List.mem_cons.mp hp with q | q
    · rw [q] at e
      exact absurd e ne
    · rw [List.mem_singleton.mp q]
  have mA : (tb, ("signs_from" : Str) ++ ".<locals>." ++ "<lambda>") ∈ ([(tb, ("signs_from" : Str) ++ ".<locals>." ++ "<lambda>"), (tc, ("_law_by_size" : Str) ++ ".<locals>." ++ "<lambda>")] : List (Addr × Str)) := .head _
  have mC : (tc, ("_law_by_size" : Str) ++ ".<locals>." ++ "<lambda>") ∈ ([(tb, ("signs_from" : Str) ++ ".<locals>." ++ "<lambda>"), (tc, ("_law_by_size" : Str) ++ ".<locals>." ++ "<lambda>")] : List (Addr × Str)) := .tail _ (.head _)
  have h_things_in := ok_things_in (P := P) (w := w) (base := base) d_things_in
  have h_set_of := ok_set_of (P := P) (w := w) (base := base) d_set_of
  have h_many_in := ok_many_in (P := P) (w := w) (base := base) B h_things_in d_many_in
  have h_has_thing := ok_has_thing (P := P) (w := w) (base := base) d_has_thing
  have h_kept_to := ok_kept_to (P := P) (w := w) (base := base) B h_things_in h_set_of h_has_thing d_kept_to
  have h_is_pair := ok_is_pair (P := P) (w := w) (base := base) B d_is_pair
  have h_law_cell := ok_law_cell (P := P) (w := w) (base := base) B d_law_cell
  have h_law_turn := ok_law_turn (P := P) (w := w) (base := base) d_law_turn
  have h_law_whole_cell := ok_law_whole_cell (P := P) (w := w) (base := base) B d_law_whole_cell
  have h_law_whole := ok_law_whole (P := P) (w := w) (base := base) B d_law_whole
  have h_law_renumbered := ok_law_renumbered (P := P) (w := w) (base := base) B d_law_renumbered
  have h_law_order := ok_law_order (P := P) (w := w) (base := base) B h_law_turn h_law_renumbered d_law_order
  have h_law_signs := ok_law_signs (P := P) (w := w) (base := base) B d_law_signs
  have h_law_least := ok_law_least (P := P) (w := w) (base := base) B d_law_least
  have h_law_greatest := ok_law_greatest (P := P) (w := w) (base := base) B d_law_greatest
  have h_law_back := ok_law_back (P := P) (w := w) (base := base) B h_law_greatest d_law_back
  have h_law_ended := ok_law_ended (P := P) (w := w) (base := base) B d_law_ended
  have h_signs_from := ok_signs_from (P := P) (w := w) (base := base) B h_things_in h_many_in h_has_thing TA mA uA d_signs_from
  have h_signs_table := ok_signs_table (P := P) (w := w) (base := base) B h_signs_from d_signs_table
  have h_sum_ahead := ok_sum_ahead (P := P) (w := w) (base := base) B h_signs_table d_sum_ahead
  have h_sum_back := ok_sum_back (P := P) (w := w) (base := base) B h_signs_table d_sum_back
  have h_law_by_size := ok_law_by_size (P := P) (w := w) (base := base) B TC mC uC d_law_by_size
  have h_law_way := ok_law_way (P := P) (w := w) (base := base) B h_law_by_size h_law_turn d_law_way
  have h_law_closing := ok_law_closing (P := P) (w := w) (base := base) B h_law_by_size h_law_turn h_law_least d_law_closing
  have h_law_pair := ok_law_pair (P := P) (w := w) (base := base) B h_law_ended h_law_order h_law_turn h_law_way h_law_back h_law_closing h_kept_to d_law_pair
  exact ok_law B h_law_whole_cell h_law_cell h_law_turn h_law_pair h_law_signs h_is_pair h_sum_ahead h_sum_back h_law_whole d_law
end
theorem facts {w : World} {K : PySem.W.Frag} {h : Heap} {mg : Str → Option Value} {f : Addr} (X : K.In h) (G : h.Ns mainGlobals mg) (hfa : mg ("law" : Str) = some (.ref f)) (c : He.SaysX faL fnL [] tfL exL w h K) :
    LawAtS PySem.Challenge.rw_sumsway_k62_whole_signs_over_a_pair w K CX0 9 63 "_law_script" mg f h := by
  have cd := c.t.d
  obtain ⟨fd, F⟩ := cd.def_ 25 (d := dd "law" s_law) rfl
  have e := hfa.symm.trans (He.glo_ok X G (cd.fact 25 (f := .glo "law") rfl))
  cases e
  have bb := FunD.bindsA (ps := ["_law_script"]) F fun _ _ _ _ _ _ us hl => match us, hl with | [_], _ => rfl
  have two : ∀ {Z : Addr × Addr → Prop}, Z (He.cT K ("signs_from", none)) → Z (He.cT K ("_law_by_size", none)) → ∀ p ∈ [He.cT K ("signs_from", none), He.cT K ("_law_by_size", none)], Z p := fun {Z} z1 z2 p hp => by
    rcases List.mem_cons.mp hp with q | q
    · rw [q]
      exact z1
    · rw [List.mem_singleton.mp q]
      exact z2
  have m1 : (("signs_from", none) : He.Defn) ∈ tfL := .head _
  have m2 : (("_law_by_size", none) : He.Defn) ∈ tfL := .tail _ (.head _)
  have ne : (He.cT K ("signs_from", none)).2 ≠ (He.cT K ("_law_by_size", none)).2 := fun z => by
    have q : (!((He.cT K ("signs_from", none)).2 == (He.cT K ("_law_by_size", none)).2)) = true := c.more
    rw [z] at q
    simp at q
  refine ⟨fd, [He.cT K ("signs_from", none), He.cT K ("_law_by_size", none)], spLaw K [((He.cT K ("signs_from", none)).2, ("signs_from" : Str) ++ ".<locals>." ++ "<lambda>"), ((He.cT K ("_law_by_size", none)).2, ("_law_by_size" : Str) ++ ".<locals>." ++ "<lambda>")], two (c.empty _ m1) (c.empty _ m2), two (c.out _ m1) (c.out _ m2), two (PySem.W.codeHd_of_K X (c.hd _ m1)) (PySem.W.codeHd_of_K X (c.hd _ m2)), fun s u => bb s [u] rfl, fun H a ns hl _ hT hS => ⟨a, ns, rfl, hS, hl, fun p hp => ?_, fun _ => rfl⟩, fun base Xb Gb TB => ?_⟩
  · rcases List.mem_cons.mp hp with q | q
    · rw [q]
      exact TabS.nil (hT _ (.head _))
    · rw [List.mem_singleton.mp q]
      exact TabS.nil (hT _ (.tail _ (.head _)))
  · obtain ⟨f', fd', g', _, _, k', oc, od, osl, lk⟩ := (all_of (P := PySem.Challenge.rw_sumsway_k62_whole_signs_over_a_pair.prog) (w := w) (base := base) cd X G rfl rfl ne (TB _ (.head _)) (TB _ (.tail _ (.head _)))).ex
    have z := g'.symm.trans (He.glo_ok X G (cd.fact 25 (f := .glo "law") rfl))
    cases z
    obtain ⟨oc2, od2, _, _, _, _, _, _, _, osl2, _, lk2, _⟩ := F.ex
    have q : (Obj.mk oc od (.func fd') osl) = ⟨oc2, od2, .func fd, osl2⟩ := Option.some.inj (lk.symm.trans lk2)
    injection q with _ _ q3 _
    injection q3 with q4
    rw [← q4]
    exact k'
end Sw
set_option Elab.async false
set_option linter.all false
set_option maxRecDepth 100000
set_option maxHeartbeats 0
open PySem PySem.W PySem.Calls PyProof.Rows
theorem PySem.Challenge.cw_sumsway_k62_whole_signs_over_a_pair_holds : PySem.Challenge.rw_sumsway_k62_whole_signs_over_a_pair.Holds := by
  w_on; o_law
  refine HandSHeadRun.head_any (r := Sw.Rw) (q := view Sw.Rw.prog [32]) (H := Sw.hkL) (ob := Sw.obL) (M := 4000) (loose := Sw.looseL) (d := HandSHeadRun.topDef Sw.Rw.prog 32) (kwd := []) Sw.obL_eq
    (by kernel_rfl) (fun s => by kernel_rfl) Sw.runL (by kernel_rfl) (by kernel_rfl) (by kernel_rfl) (by rfl) (by first | assumption | decide +kernel) (by decide +kernel) ⟨rfl, rfl, rfl, rfl, rfl, by decide +kernel⟩ ?hw ?hc
  case hw => w_witness2
  case hc =>
    refine LamX.walk_ofTsE (l := PySem.Challenge.rw_sumsway_k62_whole_signs_over_a_pair) (n := 63) (k := 9) (x := "_law_script") (CX := fun _ => L2.CX0) rfl (by decide) (by kernel_rfl) ⟨rfl, by decide, by decide⟩ ?F (fun _ _ _ _ _ z => z)
    intro w mg fa h Y G hmg0
    obtain ⟨K, KX, c⟩ := Y
    have hmg : mg ("law" : PySem.Str) = some (.ref fa) := by
      have e : (HandSHeadRun.topDef Sw.Rw.prog 32).name = ("law" : PySem.Str) := by kernel_rfl
      rw [← e]
      exact hmg0
    exact ⟨K, KX, Sw.facts KX G hmg c⟩
