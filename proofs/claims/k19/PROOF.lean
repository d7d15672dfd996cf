import PyProof.Rows.All
import PySem.Challenge.RW_squaresglued_k19_whole_half_turns
import HandS.ForMost
import HandS.ForExc
import HandS.Lambda
import HandS.Zip
import HandS.Walk
import HandS.Conv
import KE.SortData
import KE.DataFind
import KE.DataMinMax
import KE.DatumOrd
import HandS.TupAny
import HandS.Wide
import HandS.TupMul
import HandS.Style
import HandS.Gcd
import HandS.Deep
import HandS.Star
import HandS.IsInst
import HandS.Sort
import KE.KDictKeyed
import KE.KDictDisplayH
import KE.KDictSum
import KE.KIndexOf
import KE.KTupSum
import HandS.NoneIn
import KE.GoesEnum
import HandS.Small
import HandS.Defaults
import HandS.Head0
import HandS.Head1
import HandS.Head2
import HandS.HeadEnd
import HandS.HeadHook1
import HandS.HeadHook2
import HandS.HeadHook3
import HandS.HeadHook4
import HandS.EndTab
import HandS.HeadWalk
import HandS.ExcValue
import HandS.ExcIs
import HandS.CallLocal
import HandS.FltList
import PyProof.Rows.SeqMore
import PyProof.SumWalkG
import PyProof.Rows.Walk
set_option Elab.async false
set_option linter.all false
set_option maxRecDepth 100000
set_option maxHeartbeats 4000000
namespace SG
open PySem PySem.Spec L2
open PyProof.Rows hiding St
/-! ### plain data -/
inductive D where
  | non | bl (b : Bool) | int (i : Int) | str (x : Str) | tup (xs : List D) | lst (xs : List D) | dct (kvs : List (D × D)) | dcn (kvs : List (D × D))
  | pr (a b : D) | fn (x : Nat) | draw | scr (ns : List Int) | exn (c : Nat) (as : List D)
instance : Inhabited D := ⟨.non⟩
/-- the state of the draws -/
structure Dr where
  large : List Int
  rest : Int
  turn : Int
  cells : List Int
inductive Res (α : Type) where
  | ok (a : α) (δ : Dr) | exc (c : Nat) (as : List D) (δ : Dr) | fail
abbrev M (α : Type) := Dr → Res α
@[inline] def M.bind {α β : Type} (m : M α) (f : α → M β) : M β := fun δ => match m δ with
  | .ok a δ' => f a δ'
  | .exc c as δ' => .exc c as δ'
  | .fail => .fail
@[inline] def M.pure {α : Type} (a : α) : M α := fun δ => .ok a δ
instance : Monad M where
  pure := M.pure
  bind := M.bind
def M.opt {α : Type} : Option α → M α
  | some a => M.pure a
  | none => fun _ => .fail
mutual
def toPy : D → PyData
  | .non => .none | .bl b => .bool b | .int i => .int i | .str x => .str x
  | .tup xs => .tuple (toPys xs) | .lst xs => .list (toPys xs)
  | .dct _ => .dict [] | .dcn _ => .dict [] | .pr _ _ => .dict [] | .fn _ => .dict [] | .draw => .dict [] | .scr _ => .dict [] | .exn _ _ => .dict []
def toPys : List D → List PyData
  | [] => []
  | x :: xs => toPy x :: toPys xs
end
mutual
/-- plain data, to depth n -/
def pl : Nat → D → Bool
  | _, .non => true | _, .bl _ => true | _, .int _ => true | _, .str _ => true
  | 0, .tup _ => false | 0, .lst _ => false
  | n + 1, .tup xs => pls n xs | n + 1, .lst xs => pls n xs
  | _, .dct _ => false | _, .dcn _ => false | _, .pr _ _ => false | _, .fn _ => false | _, .draw => false | _, .scr _ => false | _, .exn _ _ => false
def pls : Nat → List D → Bool
  | _, [] => true
  | n, x :: xs => pl n x && pls n xs
end
mutual
theorem pl_plain : ∀ (n : Nat) (d : D), pl n d = true → (toPy d).plain = true ∧ (toPy d).depth ≤ n
  | n, .non, _ => by simp [toPy, PyData.plain, PyData.depth]
  | n, .bl _, _ => by simp [toPy, PyData.plain, PyData.depth]
  | n, .int _, _ => by simp [toPy, PyData.plain, PyData.depth]
  | n, .str _, _ => by simp [toPy, PyData.plain, PyData.depth]
  | 0, .tup _, h => by simp [pl] at h
  | 0, .lst _, h => by simp [pl] at h
  | n + 1, .tup xs, h => by
    have q := pls_plain n xs (by simpa [pl] using h)
    simp only [toPy, PyData.plain, PyData.depth]
    exact ⟨q.1, Nat.succ_le_succ q.2⟩
  | n + 1, .lst xs, h => by
    have q := pls_plain n xs (by simpa [pl] using h)
    simp only [toPy, PyData.plain, PyData.depth]
    exact ⟨q.1, Nat.succ_le_succ q.2⟩
  | n, .dct _, h => by cases n <;> simp [pl] at h
  | n, .dcn _, h => by cases n <;> simp [pl] at h
  | n, .fn _, h => by cases n <;> simp [pl] at h
  | n, .pr _ _, h => by cases n <;> simp [pl] at h
  | n, .draw, h => by cases n <;> simp [pl] at h
  | n, .scr _, h => by cases n <;> simp [pl] at h
  | n, .exn _ _, h => by cases n <;> simp [pl] at h
theorem pls_plain : ∀ (n : Nat) (ds : List D), pls n ds = true → PyData.plainAll (toPys ds) = true ∧ PyData.depthAll (toPys ds) ≤ n
  | n, [], _ => by simp [toPys, PyData.plainAll, PyData.depthAll]
  | n, x :: xs, h => by
    simp only [pls, Bool.and_eq_true] at h
    have a := pl_plain n x h.1
    have b := pls_plain n xs h.2
    simp only [toPys, PyData.plainAll, PyData.depthAll, Bool.and_eq_true]
    exact ⟨⟨a.1, b.1⟩, Nat.max_le.mpr ⟨a.2, b.2⟩⟩
end
theorem toPys_map : ∀ ds : List D, toPys ds = ds.map toPy
  | [] => rfl
  | x :: xs => by rw [toPys, List.map_cons, toPys_map xs]
theorem pls_all (n : Nat) : ∀ ds : List D, pls n ds = ds.all (pl n)
  | [] => rfl
  | x :: xs => by rw [pls, List.all_cons, pls_all n xs]
/-- == of plain data -/
def deq (d e : D) : Bool := PyData.eqv (toPy d) (toPy e)
/-! ### values by operators -/
/-- a depth that every comparison here has room for -/
abbrev DP : Nat := 100
def LINE : Nat := 16777216
theorem LINE_eq : LINE = sizeLine := by decide +kernel
def small (i : Int) : Bool := decide (i.natAbs < 2 ^ 4000)
def binSem : Operator → D → D → Option D
  | .Add, .int a, .int b => some (.int (a + b))
  | .Add, .str a, .str b => if a.length + b.length ≤ LINE then some (.str (a ++ b)) else none
  | .Add, .lst a, .lst b => if a.length + b.length ≤ LINE then some (.lst (a ++ b)) else none
  | .Add, .tup a, .tup b => if a.length + b.length ≤ LINE then some (.tup (a ++ b)) else none
  | .Sub, .int a, .int b => some (.int (a - b))
  | .Mult, .int a, .int b => if (small a && small b) = true ∨ a.natAbs < 2 ^ 64 ∨ b.natAbs < 2 ^ 64 then some (.int (a * b)) else none
  | .Mult, .tup a, .int k => if k = 1 then some (.tup a) else if 2 ≤ k ∧ k ≤ 1000 ∧ a ≠ [] ∧ a.length ≤ 1000 then some (.tup (List.replicate k.toNat a).flatten) else none
  | .Mult, .lst a, .int k => if -(2 ^ 63) ≤ k ∧ k < 2 ^ 63 ∧ a.length * k.toNat ≤ LINE then some (.lst (List.replicate k.toNat a).flatten) else none
  | .Mod, .int a, .int b => if 0 < b then some (.int (a % b)) else if b ≠ 0 then some (.int (a.fmod b)) else none
  | .FloorDiv, .int a, .int b => if 0 < b then (if small b then some (.int (a / b)) else none) else if b ≠ 0 ∧ small b = true then some (.int (a.fdiv b)) else none
  | .Pow, .int a, .int b => if 0 ≤ b ∧ b ≤ 1000000 ∧ a.natAbs < 2 ^ 64 then some (.int (a ^ b.toNat)) else none
  | _, _, _ => none
/-- keys of dicts -/
def dKey : D → Option Key
  | .int i => some (.inl i)
  | .str x => some (.inr x)
  | _ => none
def kD : Key → D
  | .inl i => .int i
  | .inr x => .str x
def dlook (kvs : List (D × D)) (k : D) : Option D := (kvs.find? fun kv => deq kv.1 k).map (·.2)
def dput (kvs : List (D × D)) (k v : D) : List (D × D) :=
  if (kvs.any fun kv => deq kv.1 k) = true then kvs.map (fun kv => if deq kv.1 k = true then (kv.1, v) else kv) else kvs ++ [(k, v)]
/-! ### keys that are tuples of ints, nested -/
mutual
def nk : D → Option NestedKey
  | .int i => some (.num i)
  | .tup xs => (nks xs).map .tup
  | _ => none
def nks : List D → Option (List NestedKey)
  | [] => some []
  | x :: xs => (nk x).bind fun a => (nks xs).map fun b => a :: b
end
def nkey : D → Option NestedKey
  | .tup xs => (nk (.tup xs)).bind fun k => if k.depth ≤ 8 then some k else none
  | _ => none
def nlook (kvs : List (D × D)) (κ : NestedKey) : Option D := (kvs.find? fun kv => decide (nkey kv.1 = some κ)).map (·.2)
def nput (kvs : List (D × D)) (κ : NestedKey) (k v : D) : List (D × D) :=
  if (nlook kvs κ).isSome = true then kvs.map (fun kv => if nkey kv.1 = some κ then (kv.1, v) else kv) else kvs ++ [(k, v)]
def inSem (d : D) : D → Option Bool
  | .tup xs => if pl DP d && pl DP (.tup xs) then some (xs.any fun y => deq y d) else none
  | .lst xs => if pl DP d && pl DP (.lst xs) then some (xs.any fun y => deq y d) else none
  | .dct kvs => if (dKey d).isSome then some (dlook kvs d).isSome else if kvs = [] ∧ (nkey d).isSome then some false else none
  | .dcn kvs => (nkey d).map fun κ => (nlook kvs κ).isSome
  | .str z => match d with
    | .str y => some (!(Builtin.Str.occurrences z y 0 z.length 1).isEmpty)
    | _ => none
  | _ => none
def isNon : D → Bool
  | .non => true
  | _ => false
def cmpSem : CmpOp → D → D → Option Bool
  | .Eq, d, e => if pl DP d && pl DP e then some (deq d e) else none
  | .NotEq, d, e => if pl DP d && pl DP e then some (!deq d e) else none
  | .Lt, .int a, .int b => some (decide (a < b))
  | .Lt, .tup a, .tup b => if pl DP (.tup a) && pl DP (.tup b) && PySem.W.alike (toPy (.tup a)) (toPy (.tup b)) then some (PySem.W.dataLt (toPy (.tup a)) (toPy (.tup b))) else none
  | .LtE, .int a, .int b => some (decide (a ≤ b))
  | .Gt, .int a, .int b => some (decide (b < a))
  | .GtE, .int a, .int b => some (decide (b ≤ a))
  | .In, d, e => inSem d e
  | .NotIn, d, e => (inSem d e).map (!·)
  | .Is, d, .non => some (isNon d)
  | .IsNot, d, .non => some (!isNon d)
  | .Is, .bl a, .bl b => some (decide (a = b))
  | .IsNot, .bl a, .bl b => some (!decide (a = b))
  | _, _, _ => none
def ixSem : D → D → Option D
  | .tup xs, .int i => atI xs i
  | .lst xs, .int i => atI xs i
  | .str z, .int i => if z.length ≤ LINE then (atI z.cps.toList i).map fun c => .str ⟨#[c]⟩ else none
  | .dct kvs, k => if (dKey k).isSome then dlook kvs k else none
  | .dcn kvs, k => (nkey k).bind (nlook kvs)
  | _, _ => none
def cutD (xs : List D) (lo hi : Option Int) : List D := (xs.drop (HT.sIx xs.length 0 lo)).take (HT.sIx xs.length xs.length hi - HT.sIx xs.length 0 lo)
def slSem : D → Option Int → Option Int → Option D
  | .tup xs, lo, hi => some (.tup (cutD xs lo hi))
  | .lst xs, lo, hi => some (.lst (cutD xs lo hi))
  | _, _, _ => none
end SG

set_option Elab.async false
set_option linter.all false
set_option maxRecDepth 100000
set_option maxHeartbeats 4000000
namespace SG
open PySem PySem.Spec L2
open PyProof.Rows hiding St
/-! ### a tuple once -/
theorem tuple_once (l : Addr) (items : Array Value) (n : Nat) (dd : Option Addr) (sl : Array (Option Value)) (u : Tok) :
    Meets (Builtin.«tuple.__mul__» ⟨[.ref l, .int 1 u], []⟩) (fun _ R s => s.heap.get? l = some { cls := .type "tuple", dict := dd, data := .seq items n, slots := sl } ∧ R (.ok (.ret (Value.ref l))) s) :=
  .of_wp fun prog w A R s h => by
    obtain ⟨hp, g, d, tk, os⟩ := s
    obtain ⟨hl, h⟩ := h
    have f1 := AutoSeq1.idx_int
    wp_walk using wpAny_loadPart' hl
    exact ⟨_, rfl, h⟩
theorem op_once {X : Cx} : OpR X (binaryOp .Mult) (fun x y H Q => ∃ l xs, x = .ref l ∧ y = .int 1 ∧ SqT X.K H l xs ∧ Q (.ref l) H) := by
  intro pins s σ H x y v u Q I rx ry h
  obtain ⟨l, xs, rfl, rfl, hT, q⟩ := h
  cases rx
  obtain ⟨t, rfl⟩ := ry
  obtain ⟨its, r, ⟨⟨cls, dd, data, sl⟩, ho, hc, n, hd⟩, hs⟩ := I.tuple hT
  simp only at hc hd
  subst hc hd
  exact wpAny_binaryOp_repeat_ref (T := "tuple") (U := "int") (by decide) ⟨_, ho, rfl⟩ (fun s' => typeIs_int s' 1 t) noFill_tuple_mul F.fills_int_mul F.slot_int_rmul repeat_tuple F.slot_int_index.lookup
    (call_meets F.slot_int_rmul (typeIs_int s 1 t) F.entry_int_rmul (F.args_int_rmul_2 _ _) (int_rmul_tuple 1 t l its.toArray n dd sl)
      ⟨ho, rfl, ⟨_, ho, rfl⟩, call_meets F.slot_tuple_mul ⟨_, ho, rfl⟩ F.entry_tuple_mul (F.args_tuple_mul_2 _ _) (tuple_once l its.toArray n dd sl t) ⟨ho, .ref l, H, I, rfl, q⟩⟩)
end SG

set_option Elab.async false
set_option linter.all false
set_option maxRecDepth 100000
set_option maxHeartbeats 4000000
namespace SG
open PySem PySem.Spec L2
open PyProof.Rows hiding St
/-! ### tuples without a dict of their own: tracked with their object -/
def SqN (K : PySem.W.Frag) (H : Hp) (a : Addr) (xs : List V) : Prop :=
  (∃ od : Obj, H a = some (.frz od (.tup xs)) ∧ od.dict = none) ∨
    ∃ (o : Obj) (its : Array Value) (n : Nat), K.lookup a = some o ∧ o.cls = .type "tuple" ∧ o.dict = none ∧ o.data = .seq its n ∧ its.size ≤ sizeLine ∧ Vals xs its.toList
theorem SqN.t {K : PySem.W.Frag} {H : Hp} {a : Addr} {xs : List V} (h : SqN K H a xs) : SqT K H a xs := by
  rcases h with ⟨od, h, _⟩ | ⟨o, its, n, h1, h2, h3, h4⟩
  · exact .inl (.inr ⟨od, h⟩)
  · exact .inr ⟨o, its, n, h1, h2, h4⟩
theorem SqN.of {K : PySem.W.Frag} {H : Hp} {a : Addr} {xs : List V} {od : Obj} (h : H a = some (.frz od (.tup xs))) (n : od.dict = none) : SqN K H a xs := .inl ⟨od, h, n⟩
theorem Inv.noDict {X : Cx} {pins : List (Addr × Obj)} {σ : St} {H : Hp} {s : Shared} {a : Addr} {xs : List V} (I : Inv X pins σ H s) (h : SqN X.K H a xs) : ∃ ob, s.heap.get? a = some ob ∧ ob.dict = none := by
  rcases h with ⟨od, h, n⟩ | ⟨o, its, n, h1, h2, h3, h4⟩
  · exact ⟨od, (I.hok a _ h).1, n⟩
  · exact ⟨o, I.kIn a o h1, h3⟩
/-- a new one -/
abbrev NewT (H : Hp) (xs : List V) (Q : VK) : Prop := ∀ p od, H p = none → od.dict = none → Q (.ref p) (upd H p (.frz od (.tup xs)))
theorem Inv.laidT {X : Cx} {pins : List (Addr × Obj)} {σ : St} {H : Hp} {s : Shared} {xs : List V} {its : List Value} {Q : VK} (I : Inv X pins σ H s) (hz : xs.length ≤ sizeLine) (r : Vals xs its) (q : NewT H xs Q) :
    EP X pins σ Q (.ref s.heap.objs.size) { s with heap := s.heap.push { cls := .type "tuple", data := .seq its.toArray } } := by
  have g : (s.heap.push { cls := .type "tuple", data := .seq its.toArray }).get? s.heap.objs.size = some { cls := .type "tuple", data := .seq its.toArray } := Heap.get?_push_size _ rfl
  exact ⟨.ref s.heap.objs.size, _, I.laid (t' := s.toks) (o := .frz { cls := .type "tuple", data := .seq its.toArray } (.tup xs)) (fun _ _ e => Heap.get?_push_of_some _ e) (Nat.le_refl _) ⟨g, hz, its, r, ⟨_, g, rfl, _, rfl⟩⟩, rfl, q _ _ (I.hok.fresh (Nat.le_refl _)) rfl⟩
section
variable {X : Cx} {es : List Expr} {pos : Pos} {t : TA}
def tTupN (t : TA) : TE := fun σ H Q => t σ H fun xs H1 => xs.length ≤ sizeLine ∧ NewT H1 xs Q
theorem pe_tupN {k : Nat} (h : PA X es t) : PE X (.Tuple es k pos) (tTupN t) :=
  ⟨fun pins s σ H Q I hq => wpAny_Tuple_spliced (thn (h.run pos pins s σ H _ I hq) fun us s1 ⟨xs, H1, I1, r, z, q⟩ => ⟨by rw [← r.length]; exact z, Inv.laidT I1 z r q⟩)⟩
theorem call_tupleN : CallR X (.type "tuple") (fun xs H Q => ∃ p ys, xs = [.ref p] ∧ ((SqL X.K H p ys ∧ NewT H ys Q) ∨ (SqT X.K H p ys ∧ Q (.ref p) H))) := by
  rintro pins s σ H xs us Q I r ⟨p, ys, rfl, h⟩
  obtain ⟨u, rfl, rx⟩ := vals1 r
  cases rx
  rcases h with ⟨hq, q⟩ | ⟨hq, q⟩
  · obtain ⟨its, r', pl, hz⟩ := I.list hq
    have hlen := r'.length
    refine call_tuple_list pl.isList (fun h' kp => ?_) (by simp only [List.size_toArray] <;> omega)
    exact Inv.laidT (s := { s with heap := h' }) (I.kept (t' := s.toks) kp) hz r' q
  · obtain ⟨its, r', pl, hz⟩ := I.tuple hq
    exact call_tuple_same pl ⟨.ref p, H, I, rfl, q⟩
def rCatN (K : PySem.W.Frag) : R2 := fun x y H Q => ∃ a b xs ys, x = .ref a ∧ y = .ref b ∧ SqT K H a xs ∧ SqT K H b ys ∧ xs.length + ys.length ≤ sizeLine ∧
  (xs = [] → Q (.ref b) H) ∧ (xs ≠ [] → ys = [] → Q (.ref a) H) ∧ (xs ≠ [] → ys ≠ [] → NewT H (xs ++ ys) Q)
theorem op_catN : OpR X (binaryOp .Add) (rCatN X.K) := by
  rintro pins s σ H x y v u Q I rx ry ⟨a, b, xs, ys, rfl, rfl, ha, hb, hz, q0, q1, q2⟩
  cases rx
  cases ry
  obtain ⟨its, r1, p1, _⟩ := I.tuple ha
  obtain ⟨its2, r2, p2, _⟩ := I.tuple hb
  by_cases hx : xs = []
  · subst hx
    cases r1
    exact L2.cat_tup0 p1 p2 ⟨.ref b, H, I, rfl, q0 rfl⟩
  · exact HT.cat_tup p1 p2 (fun z => hx (r1.nil_iff.mp z)) (fun z => ⟨.ref a, H, I, rfl, q1 hx (r2.nil_iff.mp z)⟩) (fun z => Inv.laidT I (by rw [List.length_append]; exact hz) (r1.append r2) (q2 hx fun w => z (r2.nil_iff.mpr w))) (by rw [← r1.length, ← r2.length]; exact hz)
def rSlN (K : PySem.W.Frag) : V → Option Int → Option Int → Hp → VK → Prop := fun x lo hi H Q => ∃ a xs, x = .ref a ∧ SqT K H a xs ∧
  (HT.sIx xs.length 0 lo = 0 ∧ HT.sIx xs.length xs.length hi = xs.length → Q (.ref a) H) ∧ (¬ (HT.sIx xs.length 0 lo = 0 ∧ HT.sIx xs.length xs.length hi = xs.length) → NewT H (cutV xs lo hi) Q)
theorem sl_tupN : SlR X (rSlN X.K) := by
  rintro pins s σ H x v vl vu lo hi sl Q I rx hs pl pu ⟨a, xs, rfl, hx, q1, q2⟩
  cases rx
  obtain ⟨its, r, ht, hz⟩ := I.tuple hx
  have hlen : its.toArray.size = xs.length := by rw [List.size_toArray]; exact r.length.symm
  refine ⟨"tuple", _, PyProof.Rows.slot_tuple_getitem.lookup, ht.typeIs, ?_⟩
  by_cases hw : HT.sIx xs.length 0 lo = 0 ∧ HT.sIx xs.length xs.length hi = xs.length
  · exact L2.getItem_tuple_whole ht hs pl pu (by rw [hlen]; exact hw) ⟨.ref a, H, I, rfl, q1 hw⟩
  · refine HT.getItem_tuple_cut ht hs pl pu (by rw [hlen]; exact hw) ?_ (by rw [hlen]; exact hz)
    rw [hlen]
    exact Inv.laidT I (Nat.le_trans (cutV_length xs lo hi) hz) ((r.drop (HT.sIx xs.length 0 lo)).take (HT.sIx xs.length xs.length hi - HT.sIx xs.length 0 lo)) (q2 hw)
def rRepN (K : PySem.W.Frag) : R2 := fun x y H Q => ∃ l k xs, x = .ref l ∧ y = .int k ∧ SqT K H l xs ∧ xs ≠ [] ∧ 2 ≤ k ∧ k ≤ 1000 ∧ xs.length ≤ 1000 ∧ NewT H (List.replicate k.toNat xs).flatten Q
theorem op_repN : OpR X (binaryOp .Mult) (rRepN X.K) := by
  rintro pins s σ H x y v u Q I rx ry ⟨l, k, xs, rfl, rfl, hT, hne, h1, h2, hz, q⟩
  cases rx
  obtain ⟨t, rfl⟩ := ry
  obtain ⟨its, r, ⟨⟨cls, dd, data, sl⟩, ho, hc, n, hd⟩, hs⟩ := I.tuple hT
  simp only at hc hd
  subst hc hd
  have hle := r.length.symm
  have hi : its.toArray.isEmpty = false := by
    cases its with
    | nil => exact absurd (r.nil_iff.mp rfl) hne
    | cons a b => rfl
  have hsz : its.toArray.size = xs.length := by rw [List.size_toArray, hle]
  have hk : k.toNat * xs.length ≤ 1000 * 1000 := Nat.mul_le_mul (by omega) hz
  have hm : ((its.toArray.size : Nat) : Int) * k ≤ 1000000 := by
    have e : ((its.toArray.size : Nat) : Int) * k = ((k.toNat * xs.length : Nat) : Int) := by
      rw [hsz, Int.natCast_mul, Int.toNat_of_nonneg (by omega), Int.mul_comm]
    rw [e]; omega
  have c0 : (decide (k < -(2 ^ 63)) || decide (k ≥ 2 ^ 63)) = false := by
    rw [decide_eq_false (by omega), decide_eq_false (by omega)] <;> rfl
  have c1 : (its.toArray.isEmpty || k == 1) = false := by
    rw [hi, Bool.false_or]; exact beq_eq_false_iff_ne.mpr (by omega)
  have c2 : (decide (k ≤ 0) || its.toArray.isEmpty) = false := by
    rw [hi, Bool.or_false]; exact decide_eq_false (by omega)
  have c4 : Builtin.Tuple.tupleTooMany (((its.toArray.size : Nat) : Int) * k) = false := by
    unfold Builtin.Tuple.tupleTooMany
    rw [sizeLine_eq]; exact decide_eq_false (by omega)
  have fl : (List.replicate k.toNat its).flatten.length ≤ sizeLine := by
    rw [PyProof.Rows.lm_len_rep_flat, hle, sizeLine_eq]; omega
  refine wpAny_binaryOp_repeat_ref (T := "tuple") (U := "int") (by decide) ⟨_, ho, rfl⟩ (fun s' => typeIs_int s' k t) noFill_tuple_mul F.fills_int_mul F.slot_int_rmul repeat_tuple F.slot_int_index.lookup
    (call_meets F.slot_int_rmul (typeIs_int s k t) F.entry_int_rmul (F.args_int_rmul_2 _ _) (int_rmul_tuple k t l its.toArray n dd sl)
      ⟨ho, rfl, ⟨_, ho, rfl⟩, call_meets F.slot_tuple_mul ⟨_, ho, rfl⟩ F.entry_tuple_mul (F.args_tuple_mul_2 _ _) (tuple_mulW l its.toArray n dd sl k t c0 c1 c2 (by omega) c4 (by rw [size_rep, List.size_toArray]; exact fl)) ⟨ho, ?_⟩⟩)
  rw [size_rep]
  exact Inv.laidT I (by rw [PyProof.Rows.lm_len_rep_flat, sizeLine_eq]; omega) (r.rep k.toNat) q
def tTupRgN (te : St → Hp → (Int → Int → Hp → Prop) → Prop) : TE := fun σ H Q => te σ H fun a b H1 => RgOk a b ∧ NewT H1 (rgV a b) Q
theorem pe_tupRgN {e : Expr} {te : St → Hp → (Int → Int → Hp → Prop) → Prop} {p : Pos} (hc : X.calm = true) (hg : Gl X "tuple") (hm : X.mg "tuple" = none) (he : PRg X e te) (na : starEach [e] X.env = (false, eval e X.env) :: starEach [] X.env) : PE X (.Call (.Name "tuple" p) [e] [] pos) (tTupRgN te) := by
  refine ⟨fun pins s σ H Q I h => ?_⟩
  refine Call_ (ld_blt I hg hm boot_tuple (PyProof.Rows.callWith_type1 (args_cons (thn (he pins s σ H _ I h) ?_) na) na))
  rintro x s1 ⟨r, a, b, t, u, v, H1, rfl, hr, I1, ⟨b1, b2, b3, b4, b5⟩, q⟩
  refine args_nil (call_tuple_range (n := (b - a).toNat) (I1.ok.hd hc) hr (small_one b1 b2 b3 b4) (rangeSize_nat a b) b5 fun h' tk acc hk hi => ?_)
  have := Inv.laidT (s := { s1 with heap := h', toks := tk }) (Q := Q) (I1.kept hk) (by rw [rgV_length, sizeLine_eq]; omega) (vals_rg hi) q
  rw [Array.toArray_toList] at this
  exact this
end
/-! ### a method of a tuple -/
section
variable {X : Cx} {o e : Expr} {apos cpos : Pos} {to te : TE}
def tTM (K : PySem.W.Frag) (r : V → List V → Hp → VK → Prop) (to : TE) (t : TA) : TE := fun σ H Q => to σ H fun x H1 => (∃ a xs, x = .ref a ∧ SqN K H1 a xs) ∧ t σ H1 fun ys H2 => r x ys H2 Q
theorem pe_tm {name : Str} {id : String} {t : TA} {r : V → List V → Hp → VK → Prop} (slot : Slot "tuple" name id) (hty : typeOf (.builtin id) = pure (.type "method_descriptor")) (hm : MtR X id r) (ho : PE X o to) (ha : PA X [e] t)
    (hbase : attributeBase o name X.env (eval o X.env) = eval o X.env)
    (hfew : ((backTo cpos (starEach [e] X.env)).all (fun x => !x.1) && (backToKw cpos (keywordEach [] X.env)).all (fun x => x.1.isSome) && decide ([e].length + ([] : List Keyword).length + (if ([] : List Keyword).isEmpty then 0 else 1) < 30)) = true)
    (hline : (apos.endLine == cpos.line) = true) (hs : starEach [e] X.env = (false, eval e X.env) :: starEach [] X.env) (hp : (backTo cpos (starEach [] X.env)).any (·.1) = false) :
    PE X (.Call (.Attribute o name apos) [e] [] cpos) (tTM X.K r to t) := by
  refine ⟨fun pins s σ H Q I h => wpAny_Call_method_late hbase hfew hline rfl (thn (ho.run pins s σ H _ I h) ?_)⟩
  rintro v s1 ⟨x, H1, I1, r1, ⟨a, xs, rfl, hn⟩, q1⟩
  cases r1
  obtain ⟨its, _, ⟨ob, hob, hc, _⟩, _⟩ := I1.tuple hn.t
  refine ⟨"tuple", id, F.plainAttrs_tuple, slot, hty, ⟨ob, hob, hc⟩, fun b z => by cases z; exact Inv.noDict I1 hn, ?_⟩
  have hA := ha.run cpos pins s1 σ H1 _ I1 q1
  rw [hs] at hA ⊢
  refine Calls.callWith_builtin (by show (false || (backTo cpos (starEach [] X.env)).any (·.1)) = false; rw [hp] <;> rfl) (Calls.evalArgs_plain ?_)
  exact thn hA fun us s2 ⟨vs, H2, I2, r2, q2⟩ => hm pins s2 σ H2 (.ref a) vs (.ref a) us Q I2 rfl r2 q2
theorem mt_tidx : MtR X "tuple.index" (fun x xs H Q => ∃ (a : Addr) (ns : List Int) (k : Int), x = .ref a ∧ xs = [.int k] ∧ SqT X.K H a (ns.map V.int) ∧ k ∈ ns ∧ Q (.int (ns.idxOf k : Nat)) H) := by
  rintro pins s σ H x xs v us Q I rx rxs ⟨a, ns, k, rfl, rfl, hq, hk, q⟩
  cases rx
  obtain ⟨u, rfl, t, rfl⟩ := vals1 rxs
  obtain ⟨its, r, pl, hz⟩ := I.tuple hq
  exact PySem.SeqAt.tuple_index_ints (show s.heap.IsTuple a its.toArray from pl) (RZ.intsAre_vals r) hk ⟨.int (ns.idxOf k : Nat), H, I.tok _, ⟨_, rfl⟩, q⟩
end
end SG

set_option Elab.async false
set_option linter.all false
set_option maxRecDepth 100000
set_option maxHeartbeats 4000000
namespace SG
open PySem PySem.Spec L2
open PyProof.Rows hiding St
/-! ### what stands where -/
structure Sta where
  K : PySem.W.Frag
  fn : Nat → Option Addr
  cls : Nat → Option Addr
  tabs : List (Addr × Str)
structure Gm extends Sta where
  dw : Addr
  dl : Addr
  dc : Addr
def Gm.DR (Γ : Gm) (a : Addr) : Prop := a = Γ.dw ∨ a = Γ.dl ∨ a = Γ.dc
/-- an exception object that was caught -/
def ExcV (cls : Value) (dx : Option Addr) (a : Addr) : HO := .ext fun h => ∃ (oe : Obj) (vs : Array Value), h.get? a = some oe ∧ Zc cls dx oe ∧ oe.data = .fields vs
/-- a dict whose keys are tuples of ints, nested -/
abbrev WN : Type := List (NestedKey × Addr × V)
def EN : WN → List (NestedKey × Addr × Value) → Prop := Paired fun p q => p.1 = q.1 ∧ p.2.1 = q.2.1 ∧ RelV p.2.2 q.2.2
def dnP (d : Addr) (ws : WN) (h : Heap) : Prop := ws.length ≤ sizeLine ∧ (d == sysModules) = false ∧ ∃ xs, EN ws xs ∧ ∃ o es ep, h.get? d = some o ∧ o.ExactDict ∧ o.data = .dict es ep ∧
  (∀ (P : Program) (w : World), es.toList = xs.map (entryOfKey (nestedKind P w))) ∧ (xs.map (·.1)).Nodup
def DNo (d : Addr) (ws : WN) : HO := .ext (dnP d ws)
theorem DNo.ntb {d : Addr} {ws : WN} : ∀ ps, DNo d ws ≠ .tbl ps := fun _ z => by unfold DNo at z; cases z
mutual
inductive RelD (Γ : Gm) (H : Hp) (O : Addr → Prop) : D → V → Prop
  | non : RelD Γ H O .non .non
  | bl (b : Bool) : RelD Γ H O (.bl b) (.bl b)
  | int (i : Int) : RelD Γ H O (.int i) (.int i)
  | str (x : Str) : RelD Γ H O (.str x) (.str x)
  | tup {a : Addr} {xs : List V} {ds : List D} : ¬ O a → SqN Γ.K H a xs → RelDs Γ H O ds xs → RelD Γ H O (.tup ds) (.ref a)
  | pr {a : Addr} {x y : V} {d e : D} : ¬ O a → SqT Γ.K H a [x, y] → RelD Γ H O d x → RelD Γ H O e y → RelD Γ H O (.pr d e) (.ref a)
  | lst {a : Addr} {xs : List V} {ds : List D} : ¬ O a → H a = some (.lst xs) → RelDs Γ H O ds xs → RelD Γ H O (.lst ds) (.ref a)
  | dct {a : Addr} {kvs : List (Key × V)} {ds : List (D × D)} : ¬ O a → Rd H a (.dK kvs) → RelKs Γ H O ds kvs → RelD Γ H O (.dct ds) (.ref a)
  | dcn {a : Addr} {ws : WN} {ds : List (D × D)} : ¬ O a → H a = some (DNo a ws) → RelN Γ H O ds ws → RelD Γ H O (.dcn ds) (.ref a)
  | fn {x : Nat} {a : Addr} : Γ.fn x = some a → RelD Γ H O (.fn x) (.ref a)
  | draw : RelD Γ H O .draw (.ref Γ.dw)
  | scr {a : Addr} {ns : List Int} : ¬ O a → SqL Γ.K H a (ns.map V.int) → RelD Γ H O (.scr ns) (.ref a)
  | exn {a k : Addr} {c : Nat} : ¬ O a → Γ.cls c = some k → H a = some (ExcV (.ref k) none a) → RelD Γ H O (.exn c []) (.ref a)
inductive RelDs (Γ : Gm) (H : Hp) (O : Addr → Prop) : List D → List V → Prop
  | nil : RelDs Γ H O [] []
  | cons {d : D} {ds : List D} {v : V} {vs : List V} : RelD Γ H O d v → RelDs Γ H O ds vs → RelDs Γ H O (d :: ds) (v :: vs)
inductive RelKs (Γ : Gm) (H : Hp) (O : Addr → Prop) : List (D × D) → List (Key × V) → Prop
  | nil : RelKs Γ H O [] []
  | cons {d : D} {ds : List (D × D)} {k : Key} {v : V} {vs : List (Key × V)} : RelD Γ H O d v → RelKs Γ H O ds vs → RelKs Γ H O ((kD k, d) :: ds) ((k, v) :: vs)
inductive RelN (Γ : Gm) (H : Hp) (O : Addr → Prop) : List (D × D) → WN → Prop
  | nil : RelN Γ H O [] []
  | cons {k d : D} {κ : NestedKey} {b : Addr} {v : V} {ds : List (D × D)} {ws : WN} : nkey k = some κ → RelD Γ H O k (.ref b) → RelD Γ H O d v → RelN Γ H O ds ws → RelN Γ H O ((k, d) :: ds) ((κ, b, v) :: ws)
end
/-- all but the code objects' tables and what S names stays -/
def Ext (S : Addr → Prop) (H H' : Hp) : Prop := ∀ a o, H a = some o → ¬ S a → (∀ ps, o ≠ .tbl ps) → H' a = some o
theorem Ext.refl (S : Addr → Prop) (H : Hp) : Ext S H H := fun _ _ h _ _ => h
theorem Ext.trans {S : Addr → Prop} {H H1 H2 : Hp} (a : Ext S H H1) (b : Ext S H1 H2) : Ext S H H2 := fun x o h n t => b x o (a x o h n t) n t
theorem Ext.mono {S S' : Addr → Prop} {H H1 : Hp} (a : Ext S H H1) (h : ∀ x, S x → S' x) : Ext S' H H1 := fun x o e n t => a x o e (fun z => n (h x z)) t
theorem Ext.new {S : Addr → Prop} {H : Hp} {p : Addr} {o : HO} (h : H p = none) : Ext S H (upd H p o) := fun a u e _ _ => by
  rw [upd_ne (ne_of_none e h)]; exact e
/-- what is tracked is no part of the text -/
def NW (K : PySem.W.Frag) (H : Hp) : Prop := ∀ a o, H a = some o → K.lookup a = none
def Trk (K : PySem.W.Frag) (H : Hp) (a : Addr) : Prop := (∃ o, H a = some o ∧ ∀ ps, o ≠ .tbl ps) ∨ ∃ o, K.lookup a = some o
theorem rd_ext {S : Addr → Prop} {H H' : Hp} {a : Addr} {u : HO} (e : Ext S H H') (n : ¬ S a) (t : ∀ ps, u ≠ .tbl ps) (r : Rd H a u) : Rd H' a u := by
  rcases r with r | ⟨o, r⟩
  · exact .inl (e a _ r n t)
  · exact .inr ⟨o, e a _ r n (fun ps z => by cases z)⟩
theorem rd_trk {K : PySem.W.Frag} {H : Hp} {a : Addr} {u : HO} (t : ∀ ps, u ≠ .tbl ps) (r : Rd H a u) : Trk K H a := by
  rcases r with r | ⟨o, r⟩
  · exact .inl ⟨_, r, t⟩
  · exact .inl ⟨_, r, fun _ z => by cases z⟩
theorem sqT_ext {K : PySem.W.Frag} {S : Addr → Prop} {H H' : Hp} {a : Addr} {xs : List V} (e : Ext S H H') (n : ¬ S a) (h : SqT K H a xs) : SqT K H' a xs := by
  rcases h with r | r
  · exact .inl (rd_ext e n (fun _ z => by cases z) r)
  · exact .inr r
theorem sqL_ext {K : PySem.W.Frag} {S : Addr → Prop} {H H' : Hp} {a : Addr} {xs : List V} (e : Ext S H H') (n : ¬ S a) (h : SqL K H a xs) : SqL K H' a xs := by
  rcases h with r | r
  · exact .inl (rd_ext e n (fun _ z => by cases z) r)
  · exact .inr r
theorem sqT_trk {K : PySem.W.Frag} {H : Hp} {a : Addr} {xs : List V} (h : SqT K H a xs) : Trk K H a := by
  rcases h with r | ⟨o, _, _, r, _⟩
  · exact rd_trk (fun _ z => by cases z) r
  · exact .inr ⟨o, r⟩
theorem sqN_ext {K : PySem.W.Frag} {S : Addr → Prop} {H H' : Hp} {a : Addr} {xs : List V} (e : Ext S H H') (n : ¬ S a) (h : SqN K H a xs) : SqN K H' a xs := by
  rcases h with ⟨od, h, hd⟩ | h
  · exact .inl ⟨od, e a _ h n (fun _ z => by cases z), hd⟩
  · exact .inr h
theorem sqN_trk {K : PySem.W.Frag} {H : Hp} {a : Addr} {xs : List V} (h : SqN K H a xs) : Trk K H a := by
  rcases h with ⟨od, h, hd⟩ | ⟨o, _, _, r, _⟩
  · exact .inl ⟨_, h, fun _ z => by cases z⟩
  · exact .inr ⟨o, r⟩
theorem sqL_trk {K : PySem.W.Frag} {H : Hp} {a : Addr} {xs : List V} (h : SqL K H a xs) : Trk K H a := by
  rcases h with r | ⟨o, _, _, r, _⟩
  · exact rd_trk (fun _ z => by cases z) r
  · exact .inr ⟨o, r⟩
section
variable {Γ : Gm} {H H' : Hp} {O O' : Addr → Prop} (e : Ext O H H') (w : ∀ a, Trk Γ.K H a → ¬ O a → ¬ O' a)
include e w
mutual
theorem RelD.mv : ∀ {d : D} {v : V}, RelD Γ H O d v → RelD Γ H' O' d v
  | _, _, .non => .non
  | _, _, .bl b => .bl b
  | _, _, .int i => .int i
  | _, _, .str x => .str x
  | _, _, .tup n h r => .tup (w _ (sqN_trk h) n) (sqN_ext e n h) (RelDs.mv r)
  | _, _, .pr n h r q => .pr (w _ (sqT_trk h) n) (sqT_ext e n h) (RelD.mv r) (RelD.mv q)
  | _, _, .lst n h r => .lst (w _ (.inl ⟨_, h, fun _ z => by cases z⟩) n) (e _ _ h n fun _ z => by cases z) (RelDs.mv r)
  | _, _, .dct n h r => .dct (w _ (rd_trk (fun _ z => by cases z) h) n) (rd_ext e n (fun _ z => by cases z) h) (RelKs.mv r)
  | _, _, .dcn n h r => .dcn (w _ (.inl ⟨_, h, DNo.ntb⟩) n) (e _ _ h n DNo.ntb) (RelN.mv r)
  | _, _, .fn h => .fn h
  | _, _, .draw => .draw
  | _, _, .scr n h => .scr (w _ (sqL_trk h) n) (sqL_ext e n h)
  | _, _, .exn n h r => .exn (w _ (.inl ⟨_, r, fun _ z => by unfold ExcV at z; cases z⟩) n) h (e _ _ r n fun _ z => by unfold ExcV at z; cases z)
theorem RelDs.mv : ∀ {ds : List D} {vs : List V}, RelDs Γ H O ds vs → RelDs Γ H' O' ds vs
  | _, _, .nil => .nil
  | _, _, .cons h r => .cons (RelD.mv h) (RelDs.mv r)
theorem RelKs.mv : ∀ {ds : List (D × D)} {vs : List (Key × V)}, RelKs Γ H O ds vs → RelKs Γ H' O' ds vs
  | _, _, .nil => .nil
  | _, _, .cons h r => .cons (RelD.mv h) (RelKs.mv r)
theorem RelN.mv : ∀ {ds : List (D × D)} {vs : WN}, RelN Γ H O ds vs → RelN Γ H' O' ds vs
  | _, _, .nil => .nil
  | _, _, .cons e h q r => .cons e (RelD.mv h) (RelD.mv q) (RelN.mv r)
end
end
section
variable {Γ : Gm} {H H' : Hp} {O O' : Addr → Prop}
theorem RelD.ext {d : D} {v : V} (h : RelD Γ H O d v) (e : Ext O H H') : RelD Γ H' O d v := h.mv e fun _ _ n => n
theorem RelDs.ext {d : List D} {v : List V} (h : RelDs Γ H O d v) (e : Ext O H H') : RelDs Γ H' O d v := h.mv e fun _ _ n => n
theorem RelKs.ext {d : List (D × D)} {v : List (Key × V)} (h : RelKs Γ H O d v) (e : Ext O H H') : RelKs Γ H' O d v := h.mv e fun _ _ n => n
theorem RelN.ext {d : List (D × D)} {v : WN} (h : RelN Γ H O d v) (e : Ext O H H') : RelN Γ H' O d v := h.mv e fun _ _ n => n
theorem RelD.less {d : D} {v : V} (h : RelD Γ H O d v) (w : ∀ a, O' a → O a) : RelD Γ H O' d v := h.mv (Ext.refl _ _) fun a _ n z => n (w a z)
theorem RelDs.length : ∀ {ds : List D} {vs : List V}, RelDs Γ H O ds vs → ds.length = vs.length
  | _, _, .nil => rfl
  | _, _, .cons _ r => by rw [List.length_cons, List.length_cons, RelDs.length r]
theorem RelDs.get : ∀ {ds : List D} {vs : List V} {i : Nat} {d : D}, RelDs Γ H O ds vs → ds[i]? = some d → ∃ v, vs[i]? = some v ∧ RelD Γ H O d v
  | _, _, _, _, .nil, h => by simp at h
  | _, _, 0, _, .cons h r, e => by
    simp only [List.getElem?_cons_zero, Option.some.injEq] at e
    subst e
    exact ⟨_, rfl, h⟩
  | _, _, i + 1, _, .cons h r, e => by
    simp only [List.getElem?_cons_succ] at e ⊢
    exact RelDs.get r e
theorem RelDs.append : ∀ {ds es : List D} {vs ws : List V}, RelDs Γ H O ds vs → RelDs Γ H O es ws → RelDs Γ H O (ds ++ es) (vs ++ ws)
  | _, _, _, _, .nil, s => s
  | _, _, _, _, .cons h r, s => .cons h (RelDs.append r s)
theorem RelDs.take : ∀ {ds : List D} {vs : List V} (n : Nat), RelDs Γ H O ds vs → RelDs Γ H O (ds.take n) (vs.take n)
  | _, _, 0, _ => by simpa using .nil
  | _, _, _ + 1, .nil => by simpa using .nil
  | _, _, n + 1, .cons h r => by
    rw [List.take_succ_cons, List.take_succ_cons]
    exact .cons h (RelDs.take n r)
theorem RelDs.drop : ∀ {ds : List D} {vs : List V} (n : Nat), RelDs Γ H O ds vs → RelDs Γ H O (ds.drop n) (vs.drop n)
  | _, _, 0, r => r
  | _, _, _ + 1, .nil => by simpa using .nil
  | _, _, n + 1, .cons h r => by
    rw [List.drop_succ_cons, List.drop_succ_cons]
    exact RelDs.drop n r
theorem RelDs.set : ∀ {ds : List D} {vs : List V} {d : D} {v : V} (i : Nat), RelDs Γ H O ds vs → RelD Γ H O d v → RelDs Γ H O (ds.set i d) (vs.set i v)
  | _, _, _, _, _, .nil, _ => by simpa using .nil
  | _, _, _, _, 0, .cons h r, q => by simpa using .cons q r
  | _, _, _, _, i + 1, .cons h r, q => by simpa using .cons h (RelDs.set i r q)
theorem RelDs.reverse : ∀ {ds : List D} {vs : List V}, RelDs Γ H O ds vs → RelDs Γ H O ds.reverse vs.reverse
  | _, _, .nil => by simpa using .nil
  | _, _, .cons h r => by
    rw [List.reverse_cons, List.reverse_cons]
    exact (RelDs.reverse r).append (.cons h .nil)
theorem RelDs.eraseIdx : ∀ {ds : List D} {vs : List V} (i : Nat), RelDs Γ H O ds vs → RelDs Γ H O (ds.eraseIdx i) (vs.eraseIdx i)
  | _, _, _, .nil => by simpa using .nil
  | _, _, 0, .cons h r => by simpa using r
  | _, _, i + 1, .cons h r => by simpa using .cons h (RelDs.eraseIdx i r)
theorem RelDs.dropLast {ds : List D} {vs : List V} (h : RelDs Γ H O ds vs) : RelDs Γ H O ds.dropLast vs.dropLast := by
  rw [List.dropLast_eq_take, List.dropLast_eq_take, h.length]
  exact h.take _
theorem RelDs.nil_iff {ds : List D} {vs : List V} (h : RelDs Γ H O ds vs) : ds = [] ↔ vs = [] := by
  cases h with
  | nil => simp
  | cons _ _ => simp
theorem RelDs.flat : ∀ {ds : List D} {vs : List V} (k : Nat), RelDs Γ H O ds vs → RelDs Γ H O (List.replicate k ds).flatten (List.replicate k vs).flatten
  | _, _, 0, _ => by simpa using .nil
  | _, _, k + 1, r => by
    simp only [List.replicate_succ, List.flatten_cons]
    exact r.append (RelDs.flat k r)
theorem RelDs.ints : ∀ {ns : List Int}, RelDs Γ H O (ns.map D.int) (ns.map V.int)
  | [] => .nil
  | n :: ns => .cons (.int n) RelDs.ints
/-- plain data read the same off the layer's relation -/
theorem RelD.dp_aux (n : Nat) : (∀ (d : D) (v : V), pl n d = true → RelD Γ H O d v → Dp Γ.K H v (toPy d)) ∧ ∀ (ds : List D) (vs : List V), pls n ds = true → RelDs Γ H O ds vs → DpAll Γ.K H vs (toPys ds) := by
  induction n with
  | zero =>
    have A : ∀ (d : D) (v : V), pl 0 d = true → RelD Γ H O d v → Dp Γ.K H v (toPy d) := by
      intro d v p r
      cases r with
      | non => simp only [toPy]; exact .non
      | bl b => simp only [toPy]; exact .bl b
      | int i => simp only [toPy]; exact .int i
      | str x => simp only [toPy]; exact .str x
      | tup _ _ _ => simp [pl] at p
      | lst _ _ _ => simp [pl] at p
      | dct _ _ _ => simp [pl] at p
      | dcn _ _ _ => simp [pl] at p
      | fn _ => simp [pl] at p
      | pr _ _ _ _ => simp [pl] at p
      | draw => simp [pl] at p
      | scr _ _ => simp [pl] at p
      | exn _ _ _ => simp [pl] at p
    refine ⟨A, fun ds => ?_⟩
    induction ds with
    | nil => intro vs _ r; cases r; exact .nil
    | cons d ds ih =>
      intro vs p r
      simp only [pls, Bool.and_eq_true] at p
      cases r with
      | cons h t => exact .cons (A _ _ p.1 h) (ih _ p.2 t)
  | succ n ih =>
    have A : ∀ (d : D) (v : V), pl (n + 1) d = true → RelD Γ H O d v → Dp Γ.K H v (toPy d) := by
      intro d v p r
      cases r with
      | non => simp only [toPy]; exact .non
      | bl b => simp only [toPy]; exact .bl b
      | int i => simp only [toPy]; exact .int i
      | str x => simp only [toPy]; exact .str x
      | tup _ h r => simp only [toPy]; exact .tup h.t (ih.2 _ _ (by simpa [pl] using p) r)
      | lst _ h r => simp only [toPy]; exact .lst (SqL.of h) (ih.2 _ _ (by simpa [pl] using p) r)
      | dct _ _ _ => simp [pl] at p
      | dcn _ _ _ => simp [pl] at p
      | fn _ => simp [pl] at p
      | pr _ _ _ _ => simp [pl] at p
      | draw => simp [pl] at p
      | scr _ _ => simp [pl] at p
      | exn _ _ _ => simp [pl] at p
    refine ⟨A, fun ds => ?_⟩
    induction ds with
    | nil => intro vs _ r; cases r; exact .nil
    | cons d ds ih =>
      intro vs p r
      simp only [pls, Bool.and_eq_true] at p
      cases r with
      | cons h t => exact .cons (A _ _ p.1 h) (ih _ p.2 t)
theorem RelD.dp {n : Nat} {d : D} {v : V} (p : pl n d = true) (r : RelD Γ H O d v) : Dp Γ.K H v (toPy d) := (RelD.dp_aux n).1 d v p r
theorem RelDs.dp {n : Nat} {ds : List D} {vs : List V} (p : pls n ds = true) (r : RelDs Γ H O ds vs) : DpAll Γ.K H vs (toPys ds) := (RelD.dp_aux n).2 ds vs p r
end
/-! ### a container that its slot owns; a value that is looked at -/
def OwnD (Γ : Gm) (H : Hp) (O : Addr → Prop) (d : D) (a : Addr) : Prop := match d with
  | .lst ds => ∃ vs, H a = some (.lst vs) ∧ RelDs Γ H O ds vs
  | .dct ds => ∃ kvs, H a = some (.dK kvs) ∧ RelKs Γ H O ds kvs
  | .dcn ds => ∃ ws, H a = some (DNo a ws) ∧ RelN Γ H O ds ws
  | _ => False
/-- looked at: the container itself may be owned (not one of the draws'), what lies in it not -/
def RelP (Γ : Gm) (H : Hp) (O : Addr → Prop) (d : D) (v : V) : Prop := RelD Γ H O d v ∨ ∃ a, v = .ref a ∧ ¬ Γ.DR a ∧ OwnD Γ H O d a
theorem RelD.p {Γ : Gm} {H : Hp} {O : Addr → Prop} {d : D} {v : V} (h : RelD Γ H O d v) : RelP Γ H O d v := .inl h
theorem OwnD.mv {Γ : Gm} {H H' : Hp} {O O' : Addr → Prop} {d : D} {a : Addr} (e : Ext O H H') (w : ∀ a, Trk Γ.K H a → ¬ O a → ¬ O' a) (ea : ∀ o, H a = some o → (∀ ps, o ≠ .tbl ps) → H' a = some o) (h : OwnD Γ H O d a) : OwnD Γ H' O' d a := by
  cases d with
  | lst ds => obtain ⟨vs, q, r⟩ := h; exact ⟨vs, ea _ q (fun _ z => by cases z), r.mv e w⟩
  | dct ds => obtain ⟨vs, q, r⟩ := h; exact ⟨vs, ea _ q (fun _ z => by cases z), r.mv e w⟩
  | dcn ds => obtain ⟨vs, q, r⟩ := h; exact ⟨vs, ea _ q DNo.ntb, r.mv e w⟩
  | _ => exact h.elim
theorem OwnD.there {Γ : Gm} {H : Hp} {O : Addr → Prop} {d : D} {a : Addr} (h : OwnD Γ H O d a) : ∃ o, H a = some o := by
  cases d with
  | lst ds => obtain ⟨vs, q, r⟩ := h; exact ⟨_, q⟩
  | dct ds => obtain ⟨vs, q, r⟩ := h; exact ⟨_, q⟩
  | dcn ds => obtain ⟨vs, q, r⟩ := h; exact ⟨_, q⟩
  | _ => exact h.elim
/-- just laid, its items as they stood -/
def OwnN (Γ : Gm) (H H' : Hp) (O : Addr → Prop) (d : D) (a : Addr) : Prop := match d with
  | .lst ds => ∃ vs, H' a = some (.lst vs) ∧ RelDs Γ H O ds vs
  | .dct ds => ∃ kvs, H' a = some (.dK kvs) ∧ RelKs Γ H O ds kvs
  | .dcn ds => ∃ ws, H' a = some (DNo a ws) ∧ RelN Γ H O ds ws
  | _ => False
theorem OwnN.own {Γ : Gm} {H H' : Hp} {O : Addr → Prop} {d : D} {a : Addr} (h : OwnN Γ H H' O d a) (hn : H a = none) (sm : Same H H') (nw : NW Γ.K H') : OwnD Γ H' (fun b => O b ∨ b = a) d a := by
  have hk : Γ.K.lookup a = none := by
    cases d with
    | lst ds => obtain ⟨vs, q, r⟩ := h; exact nw _ _ q
    | dct ds => obtain ⟨vs, q, r⟩ := h; exact nw _ _ q
    | dcn ds => obtain ⟨vs, q, r⟩ := h; exact nw _ _ q
    | _ => exact h.elim
  have e : Ext O H H' := fun b o z _ _ => sm b o z
  have w : ∀ b, Trk Γ.K H b → ¬ O b → ¬ (O b ∨ b = a) := by
    rintro b t n (z | rfl)
    · exact n z
    · rcases t with ⟨o, e, _⟩ | ⟨o, e⟩
      · rw [hn] at e; cases e
      · rw [hk] at e; cases e
  cases d with
  | lst ds => obtain ⟨vs, q, r⟩ := h; exact ⟨vs, q, r.mv e w⟩
  | dct ds => obtain ⟨vs, q, r⟩ := h; exact ⟨vs, q, r.mv e w⟩
  | dcn ds => obtain ⟨vs, q, r⟩ := h; exact ⟨vs, q, r.mv e w⟩
  | _ => exact h.elim
/-- an owned container becomes a plain value -/
theorem OwnD.rel {Γ : Gm} {H : Hp} {O : Addr → Prop} {d : D} {a : Addr} (h : OwnD Γ H O d a) (n : ¬ O a) : RelD Γ H O d (.ref a) := by
  cases d with
  | lst ds => obtain ⟨vs, q, r⟩ := h; exact .lst n q r
  | dct ds => obtain ⟨vs, q, r⟩ := h; exact .dct n (Rd.of q) r
  | dcn ds => obtain ⟨vs, q, r⟩ := h; exact .dcn n q r
  | _ => exact h.elim
/-! ### the draws -/
def DrawRel (Γ : Gm) (δ : Dr) (H : Hp) : Prop :=
  H Γ.dw = some (.dK [(.inr "large", .ref Γ.dl), (.inr "rest", .int δ.rest), (.inr "cells", .ref Γ.dc), (.inr "turn", .int δ.turn)]) ∧
    H Γ.dl = some (.lst (δ.large.map V.int)) ∧ H Γ.dc = some (.lst (δ.cells.map V.int)) ∧ Γ.dw ≠ Γ.dl ∧ Γ.dw ≠ Γ.dc ∧ Γ.dl ≠ Γ.dc
/-! ### a def's slots -/
inductive Sl where
  | no | val (d : D) | own (d : D)
abbrev Sls := List Sl
def OwnAt (ρ : Sls) (σ : St) (a : Addr) : Prop := ∃ (i : Nat) (d : D), ρ[i]? = some (.own d) ∧ σ[i]? = some (some (.ref a))
def Oall (F : Addr → Prop) (ρ : Sls) (σ : St) (a : Addr) : Prop := F a ∨ OwnAt ρ σ a
/-- nothing is tracked at a but a table of code objects, perhaps -/
def Fr (H : Hp) (a : Addr) : Prop := ∀ o, H a = some o → ∃ ps, o = .tbl ps
theorem fr_none {H : Hp} {a : Addr} (h : H a = none) : Fr H a := fun o e => by rw [h] at e; cases e
structure Rel (Γ : Gm) (F : Addr → Prop) (H0 : Hp) (ρ : Sls) (δ : Dr) (σ : St) (H : Hp) : Prop where
  len : ρ.length = σ.length
  val : ∀ (i : Nat) (d : D), ρ[i]? = some (Sl.val d) → ∃ v, σ[i]? = some (some v) ∧ RelD Γ H (Oall F ρ σ) d v
  own : ∀ (i : Nat) (d : D), ρ[i]? = some (Sl.own d) → ∃ a, σ[i]? = some (some (.ref a)) ∧ ¬ F a ∧ Fr H0 a ∧ OwnD Γ H (Oall F ρ σ) d a
  inj : ∀ (i j : Nat) (d e : D) (a : Addr), ρ[i]? = some (Sl.own d) → ρ[j]? = some (Sl.own e) → σ[i]? = some (some (V.ref a)) → σ[j]? = some (some (V.ref a)) → i = j
  dr : DrawRel Γ δ H
  dF : ∀ a, Γ.DR a → F a
  ftr : ∀ a, F a → ∃ o, H a = some o ∧ ∀ ps, o ≠ .tbl ps
  ext : Ext Γ.DR H0 H
  nw : NW Γ.K H
  tab : LamX.Tabs Γ.tabs H
/-- what an expression leaves of the heap: all but the draws' -/
structure Aft (Γ : Gm) (δ' : Dr) (H H' : Hp) : Prop where
  ext : Ext Γ.DR H H'
  dr : DrawRel Γ δ' H'
  nw : NW Γ.K H'
  tab : LamX.Tabs Γ.tabs H'
theorem DrawRel.there {Γ : Gm} {δ : Dr} {H : Hp} (h : DrawRel Γ δ H) {a : Addr} (q : Γ.DR a) : ∃ o, H a = some o ∧ ∀ ps, o ≠ .tbl ps := by
  obtain ⟨h1, h2, h3, _⟩ := h
  rcases q with rfl | rfl | rfl
  · exact ⟨_, h1, fun _ z => by cases z⟩
  · exact ⟨_, h2, fun _ z => by cases z⟩
  · exact ⟨_, h3, fun _ z => by cases z⟩
section
variable {Γ : Gm} {F : Addr → Prop} {H0 H H' H'' : Hp} {ρ : Sls} {δ δ' δ'' : Dr} {σ : St}
theorem Aft.trans (a : Aft Γ δ' H H') (b : Aft Γ δ'' H' H'') : Aft Γ δ'' H H'' := ⟨a.ext.trans b.ext, b.dr, b.nw, b.tab⟩
theorem Rel.refl (R : Rel Γ F H0 ρ δ σ H) : Aft Γ δ H H := ⟨Ext.refl _ _, R.dr, R.nw, R.tab⟩
theorem Rel.dO (R : Rel Γ F H0 ρ δ σ H) : ∀ a, Γ.DR a → Oall F ρ σ a := fun a h => .inl (R.dF a h)
theorem Rel.otr (R : Rel Γ F H0 ρ δ σ H) : ∀ a, Oall F ρ σ a → ∃ o, H a = some o ∧ ∀ ps, o ≠ .tbl ps := by
  rintro a (h | ⟨i, d, h1, h2⟩)
  · exact R.ftr a h
  · obtain ⟨b, h3, _, _, q⟩ := R.own i d h1
    rw [h2] at h3
    cases h3
    cases d with
    | lst ds => obtain ⟨vs, q, r⟩ := q; exact ⟨_, q, fun _ z => by cases z⟩
    | dct ds => obtain ⟨vs, q, r⟩ := q; exact ⟨_, q, fun _ z => by cases z⟩
    | dcn ds => obtain ⟨vs, q, r⟩ := q; exact ⟨_, q, DNo.ntb⟩
    | _ => exact q.elim
/-- a place that nothing tracks is nobody's -/
theorem Rel.freshF (R : Rel Γ F H0 ρ δ σ H) {p : Addr} (h : Fr H p) : ¬ Oall F ρ σ p := fun z => by
  obtain ⟨o, q, t⟩ := R.otr p z
  obtain ⟨ps, e⟩ := h o q
  exact t ps e
theorem Rel.fresh (R : Rel Γ F H0 ρ δ σ H) {p : Addr} (h : H p = none) : ¬ Oall F ρ σ p := R.freshF (fr_none h)
/-- .. ahead of it, too -/
theorem fr_back {δ : Dr} (e : Ext Γ.DR H H') (d : DrawRel Γ δ H') {p : Addr} (h : Fr H' p) : Fr H p := fun o q => by
  by_cases hd : Γ.DR p
  · obtain ⟨o', q', t⟩ := d.there hd
    obtain ⟨ps, z⟩ := h o' q'
    exact absurd z (t ps)
  · by_cases ht : ∃ ps, o = .tbl ps
    · exact ht
    · exact absurd (h o (e p o q hd fun ps z => ht ⟨ps, z⟩)) ht
theorem Rel.fr0 (R : Rel Γ F H0 ρ δ σ H) {p : Addr} (h : Fr H p) : Fr H0 p := fr_back R.ext R.dr h
/-- behind an expression -/
theorem Rel.aft (R : Rel Γ F H0 ρ δ σ H) (A : Aft Γ δ' H H') : Rel Γ F H0 ρ δ' σ H' where
  len := R.len
  val := fun i d h => by
    obtain ⟨v, h1, r⟩ := R.val i d h
    exact ⟨v, h1, r.ext (A.ext.mono R.dO)⟩
  own := fun i d h => by
    obtain ⟨a, h1, nf, n0, q⟩ := R.own i d h
    exact ⟨a, h1, nf, n0, q.mv (A.ext.mono R.dO) (fun _ _ n => n) fun o e t => A.ext a o e (fun z => nf (R.dF a z)) t⟩
  inj := R.inj
  dr := A.dr
  dF := R.dF
  ftr := fun a h => by
    obtain ⟨o, q, t⟩ := R.ftr a h
    by_cases hd : Γ.DR a
    · exact A.dr.there hd
    · exact ⟨o, A.ext a o q hd t, t⟩
  ext := R.ext.trans A.ext
  nw := A.nw
  tab := A.tab
theorem RelP.mvA {O : Addr → Prop} {d : D} {v : V} (h : RelP Γ H O d v) (A : Aft Γ δ' H H') (dO : ∀ a, Γ.DR a → O a) : RelP Γ H' O d v := by
  rcases h with h | ⟨a, e, n, q⟩
  · exact .inl (h.ext (A.ext.mono dO))
  · exact .inr ⟨a, e, n, q.mv (A.ext.mono dO) (fun _ _ n => n) fun o e t => A.ext a o e n t⟩
end
end SG

set_option Elab.async false
set_option linter.all false
set_option maxRecDepth 100000
set_option maxHeartbeats 4000000
namespace SG
open PySem PySem.Spec L2
open PyProof.Rows hiding St
/-! ### combinators -/
structure Ctx where
  call : Nat → List D → M D
abbrev DE := Ctx → Sls → M D
abbrev DT := Ctx → Sls → M Bool
abbrev DA := Ctx → Sls → M (List D)
def dC (d : D) : DE := fun _ _ => M.pure d
def dVar (i : Nat) : DE := fun _ ρ => match ρ[i]? with
  | some (.val d) => M.pure d
  | _ => fun _ => .fail
def dPeek (i : Nat) : DE := fun _ ρ => match ρ[i]? with
  | some (.val d) => M.pure d
  | some (.own d) => M.pure d
  | _ => fun _ => .fail
def dBin (op : Operator) (a b : DE) : DE := fun C ρ => do
  let x ← a C ρ
  let y ← b C ρ
  M.opt (binSem op x y)
def dCmp (op : CmpOp) (a b : DE) : DT := fun C ρ => do
  let x ← a C ρ
  let y ← b C ρ
  M.opt (cmpSem op x y)
def dChain (op op' : CmpOp) (a b c : DE) : DT := fun C ρ => do
  let x ← a C ρ
  let y ← b C ρ
  let k ← M.opt (cmpSem op x y)
  match k with
  | true => do
    let z ← c C ρ
    M.opt (cmpSem op' y z)
  | false => M.pure false
/-- a test as a value; a value as a test -/
def dBl (t : DT) : DE := fun C ρ => do
  let b ← t C ρ
  M.pure (.bl b)
def isBl : D → Option Bool
  | .bl b => some b
  | _ => none
def dTst (e : DE) : DT := fun C ρ => do
  let x ← e C ρ
  M.opt (isBl x)
def dAnd (a b : DT) : DT := fun C ρ => do
  let k ← a C ρ
  match k with
  | true => b C ρ
  | false => M.pure false
def dOr (a b : DT) : DT := fun C ρ => do
  let k ← a C ρ
  match k with
  | true => M.pure true
  | false => b C ρ
def dNot (a : DT) : DT := fun C ρ => do
  let k ← a C ρ
  M.pure (!k)
def dIf (t : DT) (a b : DE) : DE := fun C ρ => do
  let k ← t C ρ
  match k with
  | true => a C ρ
  | false => b C ρ
def dNeg (a : DE) : DE := fun C ρ => do
  let x ← a C ρ
  match x with
  | .int i => M.pure (.int (-i))
  | _ => fun _ => .fail
def dNil : DA := fun _ _ => M.pure []
def dCons (a : DE) (r : DA) : DA := fun C ρ => do
  let x ← a C ρ
  let xs ← r C ρ
  M.pure (x :: xs)
def lineD (k : List D → D) (xs : List D) : Option D := if xs.length ≤ LINE then some (k xs) else none
def dTup (r : DA) : DE := fun C ρ => do
  let xs ← r C ρ
  M.opt (lineD .tup xs)
def dLst (r : DA) : DE := fun C ρ => do
  let xs ← r C ρ
  M.opt (lineD .lst xs)
def dIx (a b : DE) : DE := fun C ρ => do
  let x ← a C ρ
  let y ← b C ρ
  M.opt (ixSem x y)
def dCall (f : Nat) (r : DA) : DE := fun C ρ => do
  let xs ← r C ρ
  C.call f xs
/-- a pure built-in -/
def dFun (g : List D → Option D) (r : DA) : DE := fun C ρ => do
  let xs ← r C ρ
  M.opt (g xs)
/-! ### what comes out -/
def ExcOk (S : Sta) (c : Nat) (as : List D) (cls : Value) (dx : Option Addr) : Prop := ∃ a, S.cls c = some a ∧ cls = .ref a ∧ as = [] ∧ dx = none
def OutG {α : Type} (Γ : Gm) (H : Hp) (E : XK) (post : α → Dr → Hp → Prop) : Res α → Prop
  | .ok a δ' => ∀ H', Aft Γ δ' H H' → post a δ' H'
  | .exc c as δ' => ∀ cls dx H', Aft Γ δ' H H' → ExcOk Γ.toSta c as cls dx → E cls dx H'
  | .fail => False
section
variable {α β : Type} {Γ : Gm} {H H1 : Hp} {E : XK} {post post' : α → Dr → Hp → Prop} {postb : β → Dr → Hp → Prop} {m : M α} {f : α → M β} {δ δ1 : Dr} {r : Res α}
theorem OutG.imp (h : OutG Γ H E post r) (k : ∀ a δ' H', Aft Γ δ' H H' → post a δ' H' → post' a δ' H') : OutG Γ H E post' r := by
  cases r with
  | ok a δ' => exact fun H' A => k a δ' H' A (h H' A)
  | exc c as δ' => exact h
  | fail => exact h
theorem OutG.aft (h : OutG Γ H E post r) (A : Aft Γ δ1 H H1) : OutG Γ H1 E post r := by
  cases r with
  | ok a δ' => exact fun H' A' => h H' (A.trans A')
  | exc c as δ' => exact fun cls dx H' A' e => h cls dx H' (A.trans A') e
  | fail => exact h
theorem OutG.bind (h : OutG Γ H E postb ((m >>= f) δ)) : OutG Γ H E (fun a δ1 H1 => OutG Γ H1 E postb (f a δ1)) (m δ) := by
  have e : (m >>= f) δ = match m δ with
    | .ok a δ' => f a δ'
    | .exc c as δ' => .exc c as δ'
    | .fail => .fail := rfl
  rw [e] at h
  cases q : m δ with
  | ok a δ' =>
    rw [q] at h
    exact fun H' A => OutG.aft h A
  | exc c as δ' =>
    rw [q] at h
    exact h
  | fail =>
    rw [q] at h
    exact h
theorem OutG.bindA (h : OutG Γ H E postb ((m >>= f) δ)) : OutG Γ H E (fun a δ1 H1 => Aft Γ δ1 H H1 ∧ OutG Γ H1 E postb (f a δ1)) (m δ) := h.bind.imp fun _ _ _ A o => ⟨A, o⟩
theorem OutG.opt {o : Option α} (h : OutG Γ H E post (M.opt o δ)) : ∃ a, o = some a ∧ ∀ H', Aft Γ δ H H' → post a δ H' := by
  cases o with
  | none => exact h.elim
  | some a => exact ⟨a, rfl, h⟩
theorem OutG.pure {a : α} (h : OutG Γ H E post (M.pure a δ)) : ∀ H', Aft Γ δ H H' → post a δ H' := h
end
section
variable (S : Sta) (C : Ctx) (E : XK)
def rdE (t : DE) : TE := fun σ H Q => ∃ (Γ : Gm) (F : Addr → Prop) (H0 : Hp) (ρ : Sls) (δ : Dr), Γ.toSta = S ∧ Rel Γ F H0 ρ δ σ H ∧
  OutG Γ H E (fun d _ H' => ∀ v, RelD Γ H' (Oall F ρ σ) d v → Q v H') (t C ρ δ)
def rdP (t : DE) : TE := fun σ H Q => ∃ (Γ : Gm) (F : Addr → Prop) (H0 : Hp) (ρ : Sls) (δ : Dr), Γ.toSta = S ∧ Rel Γ F H0 ρ δ σ H ∧
  OutG Γ H E (fun d _ H' => ∀ v, RelP Γ H' (Oall F ρ σ) d v → Q v H') (t C ρ δ)
def rdF (t : DE) : TE := fun σ H Q => ∃ (Γ : Gm) (F : Addr → Prop) (H0 : Hp) (ρ : Sls) (δ : Dr), Γ.toSta = S ∧ Rel Γ F H0 ρ δ σ H ∧
  OutG Γ H E (fun d _ H' => ∀ a, Fr H a → OwnD Γ H' (fun b => Oall F ρ σ b ∨ b = a) d a → Q (.ref a) H') (t C ρ δ)
def rdT (t : DT) : TT := fun σ H Q => ∃ (Γ : Gm) (F : Addr → Prop) (H0 : Hp) (ρ : Sls) (δ : Dr), Γ.toSta = S ∧ Rel Γ F H0 ρ δ σ H ∧
  OutG Γ H E (fun b _ H' => Q b H') (t C ρ δ)
def rdA (t : DA) : TA := fun σ H Q => ∃ (Γ : Gm) (F : Addr → Prop) (H0 : Hp) (ρ : Sls) (δ : Dr), Γ.toSta = S ∧ Rel Γ F H0 ρ δ σ H ∧
  OutG Γ H E (fun ds _ H' => ∀ vs, RelDs Γ H' (Oall F ρ σ) ds vs → Q vs H') (t C ρ δ)
end
/-! ### strengthening -/
section
variable {X : Cx} {e : Expr} {pins : List (Addr × Obj)} {σ : St} {H : Hp} {s : Shared}
theorem inv_nw (I : Inv X pins σ H s) : NW X.K H := fun a o h => by
  cases q : X.K.lookup a with
  | none => rfl
  | some u =>
    have := (I.bs a u (I.mod.kin a u q)).2
    rw [h] at this; cases this
theorem _root_.L2.PE.mono {t t' : TE} (h : PE X e t) (k : ∀ σ H Q, t' σ H Q → t σ H Q) : PE X e t' := ⟨fun pins s σ H Q I q => h.run pins s σ H Q I (k σ H Q q)⟩
theorem _root_.L2.PT.mono {t t' : TT} (h : PT X e t) (k : ∀ σ H Q, t' σ H Q → t σ H Q) : PT X e t' := ⟨fun pins s σ H Q I q => h.run pins s σ H Q I (k σ H Q q)⟩
theorem _root_.L2.PW.mono {t t' : TT} (h : PW X e t) (k : ∀ σ H Q, t' σ H Q → t σ H Q) : PW X e t' := ⟨fun whole pins s σ H Q I q => h.run whole pins s σ H Q I (k σ H Q q)⟩
theorem _root_.L2.PA.mono {es : List Expr} {t t' : TA} (h : PA X es t) (k : ∀ σ H Q, t' σ H Q → t σ H Q) : PA X es t' := ⟨fun pos pins s σ H Q I q => h.run pos pins s σ H Q I (k σ H Q q)⟩
theorem _root_.L2.PE.nw {t : TE} (h : PE X e t) : PE X e (fun σ H Q => t σ H fun v H' => NW X.K H' → Q v H') :=
  ⟨fun pins s σ H Q I q => thn (h.run pins s σ H _ I q) fun u s' ⟨v, H', I', r, q'⟩ => ⟨v, H', I', r, q' (inv_nw I')⟩⟩
/-- .. with the mono in one -/
theorem _root_.L2.PE.by' {t t' : TE} (h : PE X e t) (k : ∀ σ H Q, t' σ H Q → t σ H fun v H' => NW X.K H' → Q v H') : PE X e t' := h.nw.mono k
theorem _root_.L2.PT.by' {t t' : TT} (h : PT X e t) (k : ∀ σ H Q, t' σ H Q → t σ H fun v H' => NW X.K H' → Q v H') : PT X e t' :=
  ⟨fun pins s σ H Q I q => thn (h.run pins s σ H _ I (k σ H Q q)) fun u s' ⟨H', I', q'⟩ => ⟨H', I', q' (inv_nw I')⟩⟩
theorem _root_.L2.PA.by' {es : List Expr} {t t' : TA} (h : PA X es t) (k : ∀ σ H Q, t' σ H Q → t σ H fun v H' => NW X.K H' → Q v H') : PA X es t' :=
  ⟨fun pos pins s σ H Q I q => thn (h.run pos pins s σ H _ I (k σ H Q q)) fun u s' ⟨v, H', I', r, q'⟩ => ⟨v, H', I', r, q' (inv_nw I')⟩⟩
end
/-! ### the heap with something new -/
theorem same_new {H : Hp} {p : Addr} {o : HO} (h : H p = none) : Same H (upd H p o) := fun a u e => by
  rw [upd_ne (ne_of_none e h)]; exact e
theorem same_ext {H H' : Hp} (h : Same H H') (S : Addr → Prop) : Ext S H H' := fun a o e _ _ => h a o e
theorem DrawRel.same {Γ : Gm} {δ : Dr} {H H' : Hp} (d : DrawRel Γ δ H) (h : Same H H') : DrawRel Γ δ H' := by
  obtain ⟨h1, h2, h3, n⟩ := d
  exact ⟨h _ _ h1, h _ _ h2, h _ _ h3, n⟩
theorem aft_same {Γ : Gm} {δ : Dr} {H H' : Hp} (h : Same H H') (d : DrawRel Γ δ H) (t : LamX.Tabs Γ.tabs H) (n : NW Γ.K H') : Aft Γ δ H H' := ⟨same_ext h _, d.same h, n, t.ext h⟩
/-! ### the coercions -/
section
variable {S : Sta} {C : Ctx} {E : XK} {X : Cx} {e a b c : Expr} {t ta tb tc : DE} {pos : Pos}
theorem ePE (h : PE X e (rdE S C E t)) : PE X e (rdP S C E t) := h.mono fun σ H Q ⟨Γ, F, H0, ρ, δ, hS, R, o⟩ => ⟨Γ, F, H0, ρ, δ, hS, R, o.imp fun d δ' H' A q v r => q v r.p⟩
theorem fE (h : PE X e (rdF S C E t)) : PE X e (rdE S C E t) := h.mono fun σ H Q ⟨Γ, F, H0, ρ, δ, hS, R, o⟩ => ⟨Γ, F, H0, ρ, δ, hS, R, o.imp fun d δ' H' A q a hn ow => q _ ((ow.mv (Ext.refl _ _) (fun b _ n z => n (.inl z)) fun _ e _ => e).rel (R.freshF hn))⟩
/-! ### names, constants -/
theorem e_c {d : D} {v : V} (h : PE X e (tC v)) (hv : ∀ Γ H O, Γ.toSta = S → RelD Γ H O d v) : PE X e (rdE S C E (dC d)) := h.mono fun σ H Q ⟨Γ, F, H0, ρ, δ, hS, R, o⟩ => o.pure H R.refl v (hv _ _ _ hS)
theorem e_var {i : Nat} (h : PE X e (tVar i)) : PE X e (rdE S C E (dVar i)) := h.mono fun σ H Q ⟨Γ, F, H0, ρ, δ, hS, R, o⟩ => by
  rcases hq : ρ[i]? with _ | (_ | d | d)
  · simp only [dVar, hq] at o; exact o.elim
  · simp only [dVar, hq] at o; exact o.elim
  · simp only [dVar, hq] at o
    obtain ⟨v, hv, r⟩ := R.val i d hq
    exact ⟨v, hv, o.pure H R.refl v r⟩
  · simp only [dVar, hq] at o; exact o.elim
theorem p_peek {i : Nat} (h : PE X e (tVar i)) : PE X e (rdP S C E (dPeek i)) := h.mono fun σ H Q ⟨Γ, F, H0, ρ, δ, hS, R, o⟩ => by
  rcases hq : ρ[i]? with _ | (_ | d | d)
  · simp only [dPeek, hq] at o; exact o.elim
  · simp only [dPeek, hq] at o; exact o.elim
  · simp only [dPeek, hq] at o
    obtain ⟨v, hv, r⟩ := R.val i d hq
    exact ⟨v, hv, o.pure H R.refl v r.p⟩
  · simp only [dPeek, hq] at o
    obtain ⟨a, hv, nf, _, q⟩ := R.own i d hq
    exact ⟨_, hv, o.pure H R.refl _ (.inr ⟨a, rfl, fun z => nf (R.dF a z), q⟩)⟩
/-! ### operators by values -/
/-- the sets that a value avoids are tracked, the draws' among them -/
structure OK' (Γ : Gm) (H : Hp) (O : Addr → Prop) : Prop where
  tr : ∀ a, O a → ∃ o, H a = some o
  d : ∀ a, Γ.DR a → O a
theorem OK'.fresh {Γ : Gm} {H : Hp} {O : Addr → Prop} (h : OK' Γ H O) {p : Addr} (q : H p = none) : ¬ O p := fun z => by
  obtain ⟨o, e⟩ := h.tr p z
  rw [q] at e; cases e
theorem Rel.ok' {Γ : Gm} {F : Addr → Prop} {H0 H : Hp} {ρ : Sls} {δ : Dr} {σ : St} (R : Rel Γ F H0 ρ δ σ H) : OK' Γ H (Oall F ρ σ) := ⟨fun a h => let ⟨o, e, _⟩ := R.otr a h; ⟨o, e⟩, R.dO⟩
/-- what an operation on values must give -/
def r2 (K : PySem.W.Frag) (sem : D → D → Option D) : R2 := fun x y H Q => ∃ (Γ : Gm) (O : Addr → Prop) (d e r : D), Γ.K = K ∧ OK' Γ H O ∧ RelP Γ H O d x ∧ RelP Γ H O e y ∧ sem d e = some r ∧ ∀ v H', Same H H' → RelD Γ H' O r v → Q v H'
def rL (K : PySem.W.Frag) (sem : List D → Option D) : List V → Hp → VK → Prop := fun xs H Q => ∃ (Γ : Gm) (O : Addr → Prop) (ds : List D) (r : D), Γ.K = K ∧ OK' Γ H O ∧ RelDs Γ H O ds xs ∧ sem ds = some r ∧ ∀ v H', Same H H' → RelD Γ H' O r v → Q v H'
theorem _root_.L2.OpR.mono {f : Value → Value → Sem Value} {r r' : R2} (h : OpR X f r) (k : ∀ x y H Q, r' x y H Q → r x y H Q) : OpR X f r' := fun pins s σ H x y v u Q I rx ry q => h pins s σ H x y v u Q I rx ry (k x y H Q q)
theorem _root_.L2.CallR.mono {f : Value} {r r' : List V → Hp → VK → Prop} (h : CallR X f r) (k : ∀ xs H Q, r' xs H Q → r xs H Q) : CallR X f r' := fun pins s σ H xs us Q I rx q => h pins s σ H xs us Q I rx (k xs H Q q)
theorem e_bin {op : Operator} (hK : X.K = S.K) (ho : OpR X (binaryOp op) (r2 X.K (binSem op))) (ha : PE X a (rdP S C E ta)) (hb : PE X b (rdP S C E tb)) : PE X (.BinOp a op b pos) (rdE S C E (dBin op ta tb)) :=
  (pe_op ho ha hb).by' fun σ H Q ⟨Γ, F, H0, ρ, δ, hS, R, o⟩ => ⟨Γ, F, H0, ρ, δ, hS, R, o.bind.imp fun d1 δ1 H1 A1 o1 x r1 => ⟨Γ, F, H0, ρ, δ1, hS, R.aft A1, o1.bind.imp fun d2 δ2 H2 A2 o2 y r2 => by
    obtain ⟨r, e, q⟩ := o2.opt
    have R2 := (R.aft A1).aft A2
    exact ⟨Γ, _, d1, d2, r, by rw [hK, ← hS], R2.ok', r1.mvA A2 R.dO, r2, e, fun v H' sm rv nw => q H' (aft_same sm R2.dr R2.tab (by rw [hK, ← hS] at nw; exact nw)) v rv⟩⟩⟩
end
end SG

set_option Elab.async false
set_option linter.all false
set_option maxRecDepth 100000
set_option maxHeartbeats 4000000
namespace SG
open PySem PySem.Spec L2
open PyProof.Rows hiding St
section
variable {Γ : Gm} {H H' : Hp} {O : Addr → Prop} {v : V}
theorem RelP.int {i : Int} (h : RelP Γ H O (.int i) v) : v = .int i := by
  rcases h with h | ⟨_, _, _, h⟩
  · cases h; rfl
  · exact h.elim
theorem RelP.str {i : Str} (h : RelP Γ H O (.str i) v) : v = .str i := by
  rcases h with h | ⟨_, _, _, h⟩
  · cases h; rfl
  · exact h.elim
theorem RelP.bl {i : Bool} (h : RelP Γ H O (.bl i) v) : v = .bl i := by
  rcases h with h | ⟨_, _, _, h⟩
  · cases h; rfl
  · exact h.elim
theorem RelP.non (h : RelP Γ H O .non v) : v = .non := by
  rcases h with h | ⟨_, _, _, h⟩
  · cases h; rfl
  · exact h.elim
theorem RelP.tup {ds : List D} (h : RelP Γ H O (.tup ds) v) : ∃ a vs, v = .ref a ∧ ¬ O a ∧ SqN Γ.K H a vs ∧ RelDs Γ H O ds vs := by
  rcases h with h | ⟨_, _, _, h⟩
  · cases h with | tup n q r => exact ⟨_, _, rfl, n, q, r⟩
  · exact h.elim
theorem RelP.lst {ds : List D} (h : RelP Γ H O (.lst ds) v) (dO : ∀ a, Γ.DR a → O a) : ∃ a vs, v = .ref a ∧ ¬ Γ.DR a ∧ H a = some (.lst vs) ∧ RelDs Γ H O ds vs := by
  rcases h with h | ⟨a, e, n, vs, q, r⟩
  · cases h with | lst n q r => exact ⟨_, _, rfl, fun z => n (dO _ z), q, r⟩
  · exact ⟨a, vs, e, n, q, r⟩
theorem RelD.i_int {i : Int} (h : RelD Γ H O (.int i) v) : v = .int i := RelP.int h.p
theorem RelD.i_str {i : Str} (h : RelD Γ H O (.str i) v) : v = .str i := RelP.str h.p
theorem RelD.i_bl {i : Bool} (h : RelD Γ H O (.bl i) v) : v = .bl i := RelP.bl h.p
/-- plain data, looked at -/
theorem RelP.dp {n : Nat} {d : D} (p : pl n d = true) (r : RelP Γ H O d v) : Dp Γ.K H v (toPy d) := by
  rcases r with r | ⟨a, rfl, _, q⟩
  · exact r.dp p
  · cases d with
    | lst ds =>
      obtain ⟨vs, q, r⟩ := q
      cases n with
      | zero => simp [pl] at p
      | succ n =>
        simp only [toPy]
        exact .lst (SqL.of q) (r.dp (n := n) (by simpa [pl] using p))
    | dct ds => cases n <;> simp [pl] at p
    | dcn ds => cases n <;> simp [pl] at p
    | _ => exact q.elim
end
section
variable {X : Cx} {Γ : Gm} {H H' : Hp} {O : Addr → Prop} {σ : St} {pins : List (Addr × Obj)} {s : Shared}
theorem sz {n m : Nat} (h : n ≤ LINE) (e : n = m) : m ≤ sizeLine := by rw [← e, ← LINE_eq]; exact h
/-! ### + - * % // ** -/
theorem v_add : OpR X (binaryOp .Add) (r2 X.K (binSem .Add)) := by
  intro pins s σ H x y v u Q I rx ry ⟨Γ, O, d, e, r, hK, ok, px, py, hs, q⟩
  cases d <;> cases e <;> simp only [binSem, reduceCtorEq] at hs
  case int.int a b =>
    cases hs
    exact op_add pins s σ H x y v u Q I rx ry ⟨a, b, px.int, py.int, q _ H (Same.refl H) (.int _)⟩
  case str.str a b =>
    split at hs
    · rename_i hl
      cases hs
      exact op_add_str pins s σ H x y v u Q I rx ry ⟨a, b, px.str, py.str, by rw [← LINE_eq]; exact hl, q _ H (Same.refl H) (.str _)⟩
    · cases hs
  case lst.lst a b =>
    split at hs
    · rename_i hl
      cases hs
      obtain ⟨p, vs, ex, _, hp, rp⟩ := px.lst ok.d
      obtain ⟨p2, vs2, ey, _, hp2, rp2⟩ := py.lst ok.d
      refine op_cat pins s σ H x y v u Q I rx ry ⟨p, p2, vs, vs2, ex, ey, hp, hp2, ?_, fun z nz => ?_⟩
      · rw [← rp.length, ← rp2.length, ← LINE_eq]; exact hl
      · exact q _ _ (same_new nz) (.lst (ok.fresh nz) upd_same ((rp.append rp2).ext ((same_ext (same_new nz) O))))
    · cases hs
  case tup.tup a b =>
    split at hs
    · rename_i hl
      cases hs
      obtain ⟨p, vs, ex, n1, hp, rp⟩ := px.tup
      obtain ⟨p2, vs2, ey, n2, hp2, rp2⟩ := py.tup
      rw [hK] at hp hp2
      refine op_catN pins s σ H x y v u Q I rx ry ⟨p, p2, vs, vs2, ex, ey, hp.t, hp2.t, ?_, fun z => ?_, fun z1 z2 => ?_, fun z1 z2 z od nz hd => ?_⟩
      · rw [← rp.length, ← rp2.length, ← LINE_eq]; exact hl
      · have : a = [] := rp.nil_iff.mpr z
        subst this
        exact q _ H (Same.refl H) (by rw [← hK] at hp2; exact .tup n2 hp2 rp2)
      · have : b = [] := rp2.nil_iff.mpr z2
        subst this
        rw [List.append_nil] at q
        exact q _ H (Same.refl H) (by rw [← hK] at hp; exact .tup n1 hp rp)
      · exact q _ _ (same_new nz) (.tup (ok.fresh nz) (SqN.of upd_same hd) ((rp.append rp2).ext (same_ext (same_new nz) O)))
    · cases hs
theorem v_sub : OpR X (binaryOp .Sub) (r2 X.K (binSem .Sub)) := by
  intro pins s σ H x y v u Q I rx ry ⟨Γ, O, d, e, r, hK, ok, px, py, hs, q⟩
  cases d <;> cases e <;> simp only [binSem, reduceCtorEq] at hs
  case int.int a b =>
    cases hs
    exact op_sub pins s σ H x y v u Q I rx ry ⟨a, b, px.int, py.int, q _ H (Same.refl H) (.int _)⟩
theorem small_lt {a : Int} (h : small a = true) : a.natAbs < 2 ^ 4000 := of_decide_eq_true h
theorem v_mul : OpR X (binaryOp .Mult) (r2 X.K (binSem .Mult)) := by
  intro pins s σ H x y v u Q I rx ry ⟨Γ, O, d, e, r, hK, ok, px, py, hs, q⟩
  cases d <;> cases e <;> simp only [binSem, reduceCtorEq] at hs
  case int.int a b =>
    split at hs
    · rename_i hl
      cases hs
      rcases hl with hl | hl
      rotate_left
      · exact op_mul pins s σ H x y v u Q I rx ry ⟨a, b, px.int, py.int, by unfold CMul; omega, q _ H (Same.refl H) (.int _)⟩
      rw [Bool.and_eq_true] at hl
      exact op_mulW pins s σ H x y v u Q I rx ry ⟨a, b, px.int, py.int, wide_mul (small_lt hl.1) (small_lt hl.2) (by decide) (by decide) (by decide), q _ H (Same.refl H) (.int _)⟩
    · cases hs
  case lst.int a k =>
    split at hs
    · rename_i hl
      cases hs
      obtain ⟨h1, h2, h3⟩ := hl
      obtain ⟨p, vs, ex, n1, hp, rp⟩ := px.lst ok.d
      refine op_rep pins s σ H x y v u Q I rx ry ⟨p, k, vs, ex, py.int, hp, h1, h2, by rw [← rp.length, ← LINE_eq]; exact h3, fun z nz => ?_⟩
      exact q _ _ (same_new nz) (.lst (ok.fresh nz) upd_same ((rp.flat k.toNat).ext (same_ext (same_new nz) O)))
    · cases hs
  case tup.int a k =>
    split at hs
    · rename_i h1
      cases hs
      subst h1
      obtain ⟨p, vs, ex, n1, hp, rp⟩ := px.tup
      have hp' := hp
      rw [hK] at hp
      exact op_once pins s σ H x y v u Q I rx ry ⟨p, vs, ex, py.int, hp.t, by subst ex; exact q _ H (Same.refl H) (.tup n1 hp' rp)⟩
    split at hs
    · rename_i hl
      cases hs
      obtain ⟨h1, h2, h3, h4⟩ := hl
      obtain ⟨p, vs, ex, n1, hp, rp⟩ := px.tup
      rw [hK] at hp
      refine op_repN pins s σ H x y v u Q I rx ry ⟨p, k, vs, ex, py.int, hp.t, fun z => h3 (rp.nil_iff.mpr z), h1, h2, by rw [← rp.length]; exact h4, fun z od nz hd => ?_⟩
      exact q _ _ (same_new nz) (.tup (ok.fresh nz) (SqN.of upd_same hd) ((rp.flat k.toNat).ext (same_ext (same_new nz) O)))
    · cases hs
theorem v_mod : OpR X (binaryOp .Mod) (r2 X.K (binSem .Mod)) := by
  intro pins s σ H x y v u Q I rx ry ⟨Γ, O, d, e, r, hK, ok, px, py, hs, q⟩
  cases d <;> cases e <;> simp only [binSem, reduceCtorEq] at hs
  case int.int a b =>
    split at hs
    · rename_i hl
      cases hs
      exact op_mod pins s σ H x y v u Q I rx ry ⟨a, b, px.int, py.int, hl, q _ H (Same.refl H) (.int _)⟩
    · split at hs
      · rename_i hl
        cases hs
        exact op_modN pins s σ H x y v u Q I rx ry ⟨a, b, px.int, py.int, hl, q _ H (Same.refl H) (.int _)⟩
      · cases hs
theorem op_fdivS : OpR X (binaryOp .FloorDiv) (rI (fun _ j => j ≠ 0 ∧ j.natAbs.log2 < 9000) fun i j => .int (i.fdiv j)) := opI fun _ _ _ _ _ _ _ hc q => floordiv_int hc.1 q (.inl (PyProof.noPylong_of_log2 hc.2))
theorem v_fdiv : OpR X (binaryOp .FloorDiv) (r2 X.K (binSem .FloorDiv)) := by
  intro pins s σ H x y v u Q I rx ry ⟨Γ, O, d, e, r, hK, ok, px, py, hs, q⟩
  cases d <;> cases e <;> simp only [binSem, reduceCtorEq] at hs
  case int.int a b =>
    split at hs
    · rename_i hl
      split at hs
      · rename_i hb
        cases hs
        exact op_fdivW pins s σ H x y v u Q I rx ry ⟨a, b, px.int, py.int, wide_div hl (small_lt hb) (by decide) (by decide), q _ H (Same.refl H) (.int _)⟩
      · cases hs
    · split at hs
      · rename_i hl
        cases hs
        exact op_fdivS pins s σ H x y v u Q I rx ry ⟨a, b, px.int, py.int, ⟨hl.1, Nat.lt_of_lt_of_le (PySem.Flt.log2_lt_of (by decide) (small_lt hl.2)) (by decide)⟩, q _ H (Same.refl H) (.int _)⟩
      · cases hs
theorem v_pow : OpR X (binaryOp .Pow) (r2 X.K (binSem .Pow)) := by
  intro pins s σ H x y v u Q I rx ry ⟨Γ, O, d, e, r, hK, ok, px, py, hs, q⟩
  cases d <;> cases e <;> simp only [binSem, reduceCtorEq] at hs
  case int.int a b =>
    split at hs
    · rename_i hl
      cases hs
      exact op_pow pins s σ H x y v u Q I rx ry ⟨a, b, px.int, py.int, hl, q _ H (Same.refl H) (.int _)⟩
    · cases hs
theorem v_bin (op : Operator) : OpR X (binaryOp op) (r2 X.K (binSem op)) := by
  cases op
  case Add => exact v_add
  case Sub => exact v_sub
  case Mult => exact v_mul
  case Mod => exact v_mod
  case FloorDiv => exact v_fdiv
  case Pow => exact v_pow
  all_goals
    intro pins s σ H x y v u Q I rx ry ⟨Γ, O, d, e, r, hK, ok, px, py, hs, q⟩
    cases d <;> cases e <;> simp only [binSem, reduceCtorEq] at hs
end
end SG

set_option Elab.async false
set_option linter.all false
set_option maxRecDepth 100000
set_option maxHeartbeats 4000000
namespace SG
open PySem PySem.Spec L2
open PyProof.Rows hiding St
/-! ### dicts whose keys are tuples of ints, nested -/
mutual
theorem nk_hash : ∀ (d : D) (κ : NestedKey), nk d = some κ → ∀ w w' : World, κ.hash w = κ.hash w'
  | .int i, _, h, _, _ => by
    simp only [nk, Option.some.injEq] at h
    subst h; rfl
  | .tup xs, _, h, w, w' => by
    simp only [nk] at h
    obtain ⟨ks, hk, rfl⟩ := Option.map_eq_some_iff.mp h
    simp only [NestedKey.hash]
    rw [nks_hash xs ks hk w w']
  | .non, _, h, _, _ => by simp [nk] at h
  | .bl _, _, h, _, _ => by simp [nk] at h
  | .str _, _, h, _, _ => by simp [nk] at h
  | .lst _, _, h, _, _ => by simp [nk] at h
  | .dct _, _, h, _, _ => by simp [nk] at h
  | .dcn _, _, h, _, _ => by simp [nk] at h
  | .pr _ _, _, h, _, _ => by simp [nk] at h
  | .fn _, _, h, _, _ => by simp [nk] at h
  | .draw, _, h, _, _ => by simp [nk] at h
  | .scr _, _, h, _, _ => by simp [nk] at h
  | .exn _ _, _, h, _, _ => by simp [nk] at h
theorem nks_hash : ∀ (ds : List D) (ks : List NestedKey), nks ds = some ks → ∀ w w' : World, NestedKey.hashes w ks = NestedKey.hashes w' ks
  | [], _, h, _, _ => by
    simp only [nks, Option.some.injEq] at h
    subst h; rfl
  | d :: ds, _, h, w, w' => by
    simp only [nks] at h
    obtain ⟨a, ha, h⟩ := Option.bind_eq_some_iff.mp h
    obtain ⟨b, hb, rfl⟩ := Option.map_eq_some_iff.mp h
    simp only [NestedKey.hashes]
    rw [nk_hash d a ha w w', nks_hash ds b hb w w']
end
theorem nkey_nk {d : D} {κ : NestedKey} (h : nkey d = some κ) : nk d = some κ ∧ κ.depth ≤ 8 := by
  cases d <;> simp only [nkey, reduceCtorEq] at h
  obtain ⟨k, hk, h⟩ := Option.bind_eq_some_iff.mp h
  split at h
  · rename_i hd
    cases h
    exact ⟨hk, hd⟩
  · cases h
section
variable {X : Cx} {Γ : Gm} {H : Hp} {O : Addr → Prop} {σ : St} {pins : List (Addr × Obj)} {s : Shared}
mutual
theorem nk_is (I : Inv X pins σ H s) (hK : Γ.K = X.K) : ∀ (d : D) (v : V) (u : Value) (κ : NestedKey), nk d = some κ → RelD Γ H O d v → RelV v u → NestedIs s.heap κ u
  | .int i, _, _, _, h, r, rv => by
    simp only [nk, Option.some.injEq] at h
    subst h
    cases r
    obtain ⟨t, rfl⟩ := rv
    exact .int i t
  | .tup xs, _, _, _, h, r, rv => by
    simp only [nk] at h
    obtain ⟨ks, hk, rfl⟩ := Option.map_eq_some_iff.mp h
    cases r with
    | @tup a vs _ n hq rr =>
      cases rv
      obtain ⟨its, rv, ⟨o, ho, hc, n, hd⟩, hz⟩ := I.tuple (hK ▸ hq).t
      exact .tup ho hc hd (nks_is I hK xs vs its ks hk rr rv)
  | .non, _, _, _, h, _, _ => by simp [nk] at h
  | .bl _, _, _, _, h, _, _ => by simp [nk] at h
  | .str _, _, _, _, h, _, _ => by simp [nk] at h
  | .lst _, _, _, _, h, _, _ => by simp [nk] at h
  | .dct _, _, _, _, h, _, _ => by simp [nk] at h
  | .dcn _, _, _, _, h, _, _ => by simp [nk] at h
  | .pr _ _, _, _, _, h, _, _ => by simp [nk] at h
  | .fn _, _, _, _, h, _, _ => by simp [nk] at h
  | .draw, _, _, _, h, _, _ => by simp [nk] at h
  | .scr _, _, _, _, h, _, _ => by simp [nk] at h
  | .exn _ _, _, _, _, h, _, _ => by simp [nk] at h
theorem nks_is (I : Inv X pins σ H s) (hK : Γ.K = X.K) : ∀ (ds : List D) (vs : List V) (us : List Value) (ks : List NestedKey), nks ds = some ks → RelDs Γ H O ds vs → Vals vs us → NestedAll s.heap ks us
  | [], _, _, _, h, r, rv => by
    simp only [nks, Option.some.injEq] at h
    subst h
    cases r; cases rv
    exact .nil
  | d :: ds, _, _, _, h, r, rv => by
    simp only [nks] at h
    obtain ⟨a, ha, h⟩ := Option.bind_eq_some_iff.mp h
    obtain ⟨b, hb, rfl⟩ := Option.map_eq_some_iff.mp h
    cases r with
    | cons r1 r2 =>
      cases rv with
      | cons v1 v2 => exact .cons (nk_is I hK d _ _ a ha r1 v1) (nks_is I hK ds _ _ b hb r2 v2)
end
theorem nkey_is (I : Inv X pins σ H s) (hK : Γ.K = X.K) {d : D} {b : Addr} {κ : NestedKey} (h : nkey d = some κ) (r : RelD Γ H O d (.ref b)) : (nestedKind X.prog X.w).is s.heap κ b :=
  ⟨nk_is I hK d _ _ κ (nkey_nk h).1 r rfl, (nkey_nk h).2⟩
theorem nkey_ref {d : D} {v : V} {κ : NestedKey} (h : nkey d = some κ) (r : RelP Γ H O d v) : ∃ b, v = .ref b ∧ RelD Γ H O d (.ref b) := by
  cases d <;> simp only [nkey, reduceCtorEq] at h
  rcases r with r | ⟨_, _, _, z⟩
  · cases r with
    | tup n q rr => exact ⟨_, rfl, .tup n q rr⟩
  · exact z.elim
theorem RelN.length : ∀ {ds : List (D × D)} {ws : WN}, RelN Γ H O ds ws → ds.length = ws.length
  | _, _, .nil => rfl
  | _, _, .cons _ _ _ r => by rw [List.length_cons, List.length_cons, RelN.length r]
theorem RelN.keys : ∀ {ds : List (D × D)} {ws : WN}, RelN Γ H O ds ws → ∀ p ∈ ws, ∃ k : D, nkey k = some p.1 ∧ RelD Γ H O k (.ref p.2.1)
  | _, _, .nil, _, h => by simp at h
  | _, _, .cons e h q r, p, hp => by
    rcases List.mem_cons.mp hp with rfl | hp
    · exact ⟨_, e, h⟩
    · exact RelN.keys r p hp
theorem EN.mem {ws : WN} {xs : List (NestedKey × Addr × Value)} (h : EN ws xs) : ∀ x ∈ xs, ∃ p ∈ ws, p.1 = x.1 ∧ p.2.1 = x.2.1 := by
  unfold EN at h
  induction h with
  | nil => intro x hx; simp at hx
  | cons q t ih =>
    intro x hx
    rcases List.mem_cons.mp hx with rfl | hx
    · exact ⟨_, List.mem_cons_self, q.1, q.2.1⟩
    · obtain ⟨p, hp, e⟩ := ih x hx
      exact ⟨p, List.mem_cons_of_mem _ hp, e⟩
theorem EN.length {ws : WN} {xs : List (NestedKey × Addr × Value)} (h : EN ws xs) : ws.length = xs.length := Paired.length h
/-- the dict at a, as the model has it -/
theorem dn_at (I : Inv X pins σ H s) (hK : Γ.K = X.K) {a : Addr} {ws : WN} {ds : List (D × D)} (e : H a = some (DNo a ws)) (r : RelN Γ H O ds ws) :
    ws.length ≤ sizeLine ∧ (a == sysModules) = false ∧ ∃ xs, EN ws xs ∧ s.heap.DictOfH (nestedKind X.prog X.w) a xs := by
  obtain ⟨⟨z, hs, xs, en, o, es, ep, h1, h2, h3, h4, h5⟩, _⟩ := (show ObjOk X.prog X.w H s.heap a (.ext (dnP a ws)) from I.hok a _ e)
  refine ⟨z, hs, xs, en, o, es, ep, h1, h2, h3, h4 _ _, fun x hx => ?_, h5⟩
  obtain ⟨p, hp, e1, e2⟩ := en.mem x hx
  obtain ⟨k, hk, rk⟩ := r.keys p hp
  rw [← e1, ← e2]
  exact nkey_is I hK hk rk
/-- .. back -/
theorem dn_ok {P : Program} {w : World} {h : Heap} {H' : Hp} {a : Addr} {ws : WN} {xs : List (NestedKey × Addr × Value)} (z : ws.length ≤ sizeLine) (hs : (a == sysModules) = false) (en : EN ws xs) (hk : ∀ p ∈ ws, ∃ k : D, nkey k = some p.1) (hm : h.DictOfH (nestedKind P w) a xs) :
    ObjOk P w H' h a (DNo a ws) := by
  obtain ⟨o, es, ep, h1, h2, h3, h4, _, h5⟩ := hm
  refine ⟨⟨z, hs, xs, en, o, es, ep, h1, h2, h3, fun P' w' => ?_, h5⟩, ⟨o, h1⟩, fun h1 h2 ⟨z, hs, xs, en, o, es, ep, e1, e2, e3, e4, e5⟩ st => ⟨z, hs, xs, en, o, es, ep, st o e1, e2, e3, e4, e5⟩⟩
  rw [h4]
  refine List.map_congr_left fun x hx => ?_
  obtain ⟨p, hp, e1, e2⟩ := en.mem x hx
  obtain ⟨k, hk⟩ := hk p hp
  unfold entryOfKey
  show (⟨x.1.hash w, _, _⟩ : DictEntry) = ⟨x.1.hash w', _, _⟩
  rw [nk_hash k x.1 (e1 ▸ (nkey_nk hk).1) w w']
/-- what it holds, on both sides -/
theorem RelN.look : ∀ {ds : List (D × D)} {ws : WN} {xs : List (NestedKey × Addr × Value)} (κ : NestedKey), RelN Γ H O ds ws → EN ws xs →
    (nlook ds κ = none ∧ atKey xs κ = none) ∨ ∃ d v u b, nlook ds κ = some d ∧ atKey xs κ = some (b, u) ∧ RelV v u ∧ RelD Γ H O d v
  | _, _, _, _, .nil, en => by
    cases en
    exact .inl ⟨rfl, rfl⟩
  | _, _, _, κ, .cons (κ := κ0) (d := d) (v := v) e h q r, en => by
    cases en with
    | @cons p x ps qs hq t =>
      obtain ⟨e1, e2, e3⟩ := hq
      by_cases hk : κ0 = κ
      · subst hk
        refine .inr ⟨d, v, x.2.2, x.2.1, ?_, ?_, e3, q⟩
        · unfold nlook
          rw [List.find?_cons_of_pos (by simpa using e)]
          rfl
        · unfold atKey
          rw [List.find?_cons_of_pos (by simpa using e1.symm)]
          rfl
      · rcases RelN.look κ r t with ⟨h1, h2⟩ | ⟨d', v', u', b', h1, h2, h3, h4⟩
        · refine .inl ⟨?_, ?_⟩
          · unfold nlook at h1 ⊢
            rw [List.find?_cons_of_neg (by rw [e]; simpa using hk)]
            exact h1
          · unfold atKey at h2 ⊢
            rw [List.find?_cons_of_neg (by rw [← e1]; simpa using hk)]
            exact h2
        · refine .inr ⟨d', v', u', b', ?_, ?_, h3, h4⟩
          · unfold nlook at h1 ⊢
            rw [List.find?_cons_of_neg (by rw [e]; simpa using hk)]
            exact h1
          · unfold atKey at h2 ⊢
            rw [List.find?_cons_of_neg (by rw [← e1]; simpa using hk)]
            exact h2
/-- what a store makes -/
def wput (ws : WN) (old : Bool) (κ : NestedKey) (b : Addr) (v : V) : WN := if old = true then ws.map (fun p => if p.1 = κ then (p.1, p.2.1, v) else p) else ws ++ [(κ, b, v)]
theorem EN.repl {v : V} {u : Value} (κ : NestedKey) (rv : RelV v u) : ∀ {ws : WN} {xs : List (NestedKey × Addr × Value)}, EN ws xs → EN (ws.map fun p => if p.1 = κ then (p.1, p.2.1, v) else p) (xs.map (putAt κ u))
  | _, _, .nil => .nil
  | _, _, .cons (a := p) (b := x) ⟨e1, e2, e3⟩ t => by
    refine .cons ?_ (EN.repl κ rv t)
    show (if p.1 = κ then (p.1, p.2.1, v) else p).1 = (putAt κ u x).1 ∧ (if p.1 = κ then (p.1, p.2.1, v) else p).2.1 = (putAt κ u x).2.1 ∧ RelV (if p.1 = κ then (p.1, p.2.1, v) else p).2.2 (putAt κ u x).2.2
    unfold putAt
    by_cases h : p.1 = κ
    · rw [if_pos h, if_pos (e1 ▸ h)]
      exact ⟨e1, e2, rv⟩
    · rw [if_neg h, if_neg (e1 ▸ h)]
      exact ⟨e1, e2, e3⟩
theorem EN.snoc {v : V} {u : Value} {κ : NestedKey} {b : Addr} (rv : RelV v u) : ∀ {ws : WN} {xs : List (NestedKey × Addr × Value)}, EN ws xs → EN (ws ++ [(κ, b, v)]) (xs ++ [(κ, b, u)])
  | _, _, .nil => .cons ⟨rfl, rfl, rv⟩ .nil
  | _, _, .cons q t => .cons q (EN.snoc rv t)
theorem RelN.repl {d : D} {v : V} (κ : NestedKey) (q : RelD Γ H O d v) : ∀ {ds : List (D × D)} {ws : WN}, RelN Γ H O ds ws →
    RelN Γ H O (ds.map fun kv => if nkey kv.1 = some κ then (kv.1, d) else kv) (ws.map fun p => if p.1 = κ then (p.1, p.2.1, v) else p)
  | _, _, .nil => .nil
  | _, _, .cons (κ := κ0) e h q0 r => by
    rw [List.map_cons, List.map_cons]
    by_cases hk : κ0 = κ
    · rw [if_pos (show nkey _ = some κ by rw [e, hk]), if_pos hk]
      exact .cons e h q (RelN.repl κ q r)
    · rw [if_neg (show ¬ nkey _ = some κ by rw [e]; simpa using hk), if_neg hk]
      exact .cons e h q0 (RelN.repl κ q r)
theorem RelN.snoc {k d : D} {v : V} {κ : NestedKey} {b : Addr} (e : nkey k = some κ) (h : RelD Γ H O k (.ref b)) (q : RelD Γ H O d v) : ∀ {ds : List (D × D)} {ws : WN}, RelN Γ H O ds ws → RelN Γ H O (ds ++ [(k, d)]) (ws ++ [(κ, b, v)])
  | _, _, .nil => .cons e h q .nil
  | _, _, .cons e' h' q' r => .cons e' h' q' (RelN.snoc e h q r)
theorem RelN.put {k d : D} {v : V} {κ : NestedKey} {b : Addr} {ds : List (D × D)} {ws : WN} (e : nkey k = some κ) (h : RelD Γ H O k (.ref b)) (q : RelD Γ H O d v) (r : RelN Γ H O ds ws) :
    RelN Γ H O (nput ds κ k d) (wput ws (nlook ds κ).isSome κ b v) := by
  unfold nput wput
  split
  · exact r.repl κ q
  · exact r.snoc e h q
theorem RelN.enput {v : V} {u : Value} {κ : NestedKey} {b : Addr} {ds : List (D × D)} {ws : WN} {xs : List (NestedKey × Addr × Value)} (rv : RelV v u) (r : RelN Γ H O ds ws) (en : EN ws xs) : EN (wput ws (nlook ds κ).isSome κ b v) (storedH xs κ b u) := by
  unfold wput storedH
  rcases r.look κ en with ⟨h1, h2⟩ | ⟨_, _, _, _, h1, h2, _⟩
  · rw [h1, h2, if_neg (by simp), if_neg (by simp)]
    exact en.snoc rv
  · rw [h1, h2, if_pos (by rfl), if_pos (by rfl)]
    exact en.repl κ rv
theorem wput_len {ws : WN} {o : Bool} {κ : NestedKey} {b : Addr} {v : V} : (wput ws o κ b v).length ≤ ws.length + 1 := by
  unfold wput
  split <;> simp
/-- an empty dict is one of these -/
theorem dk_nil (I : Inv X pins σ H s) {a : Addr} (e : Rd H a (.dK [])) : (a == sysModules) = false ∧ s.heap.DictOfH (nestedKind X.prog X.w) a [] := by
  obtain ⟨z, hs, vs, r, o, es, ep, h1, h2, h3, h4, h5, h6⟩ := dk_rd I.hok e
  cases r
  refine ⟨hs, o, es, ep, h1, h2, h3, ?_, fun x hx => by simp at hx, List.nodup_nil⟩
  have := h5.length
  cases q : es.toList with
  | nil => rfl
  | cons y ys => rw [q] at this; simp at this
/-- a dict with keys of either sort, as one of these -/
def NRd (Γ : Gm) (H : Hp) (O : Addr → Prop) (a : Addr) (ds : List (D × D)) (ws : WN) : Prop := RelN Γ H O ds ws ∧ (H a = some (DNo a ws) ∨ (ws = [] ∧ Rd H a (.dK [])))
theorem NRd.at (I : Inv X pins σ H s) (hK : Γ.K = X.K) {a : Addr} {ds : List (D × D)} {ws : WN} (h : NRd Γ H O a ds ws) : ws.length ≤ sizeLine ∧ (a == sysModules) = false ∧ ∃ xs, EN ws xs ∧ s.heap.DictOfH (nestedKind X.prog X.w) a xs := by
  obtain ⟨r, h | ⟨rfl, h⟩⟩ := h
  · exact dn_at I hK h r
  · obtain ⟨h1, h2⟩ := dk_nil I h
    exact ⟨Nat.zero_le _, h1, [], .nil, h2⟩
/-- d[k] = v -/
def rSetN (K : PySem.W.Frag) : TSet := fun o i v H Q => ∃ (Γ : Gm) (O : Addr → Prop) (a b : Addr) (k : D) (κ : NestedKey) (ds : List (D × D)) (ws : WN), Γ.K = K ∧ o = .ref a ∧ i = .ref b ∧ nkey k = some κ ∧ RelD Γ H O k (.ref b) ∧
  RelN Γ H O ds ws ∧ (H a = some (DNo a ws) ∨ (ws = [] ∧ H a = some (.dK []))) ∧ ws.length < sizeLine ∧ Q (upd H a (DNo a (wput ws (nlook ds κ).isSome κ b v)))
theorem set_dictN (hu : X.A.units + 120 < cLine) : PSet X (rSetN X.K) := by
  rintro pins s σ H o i v ov iv u Q I ro ri rv ⟨Γ, O, a, b, k, κ, ds, ws, hK, rfl, rfl, hk, rk, r, he, hl, q⟩
  cases (show ov = Value.ref a from ro)
  cases (show iv = Value.ref b from ri)
  have rd : NRd Γ H O a ds ws := ⟨r, he.imp id fun z => ⟨z.1, Rd.of z.2⟩⟩
  obtain ⟨z, hs, xs, en, hm⟩ := rd.at I hK
  refine wpAny_setItem_heap (knd := nestedKind X.prog X.w) (hsz := by rw [← en.length]; exact z) (show X.A.in1.units + 8 < cLine from ?_) (nkey_is I hK hk rk) hm fun h' hm' hs' => ⟨_, ?_, q⟩
  · show X.A.units + 1 + 8 < cLine
    omega
  · have hex : ∃ q, h'.get? a = some q := let ⟨q, _, _, hq, _⟩ := hm'; ⟨q, hq⟩
    refine d_write I ?_ hs' hex (dn_ok ?_ hs (r.enput rv en) ?_ hm')
    · rcases he with e | ⟨_, e⟩ <;> rw [e] <;> exact True.intro
    · exact Nat.le_trans wput_len hl
    · intro p hp
      unfold wput at hp
      split at hp
      · obtain ⟨p0, h0, rfl⟩ := List.mem_map.mp hp
        obtain ⟨k0, e0, _⟩ := r.keys p0 h0
        refine ⟨k0, ?_⟩
        split <;> exact e0
      · rcases List.mem_append.mp hp with h0 | h0
        · obtain ⟨k0, e0, _⟩ := r.keys p h0
          exact ⟨k0, e0⟩
        · rw [List.mem_singleton.mp h0]
          exact ⟨k, hk⟩
end
end SG

set_option Elab.async false
set_option linter.all false
set_option maxRecDepth 100000
set_option maxHeartbeats 4000000
namespace SG
open PySem PySem.Spec L2
open PyProof.Rows hiding St
/-! ### keys -/
theorem kD_key {d : D} {k : Key} (h : dKey d = some k) : d = kD k := by
  cases d <;> simp only [dKey, reduceCtorEq, Option.some.injEq] at h
  · subst h; rfl
  · subst h; rfl
theorem key_kD (k : Key) : dKey (kD k) = some k := by cases k <;> rfl
theorem deq_int (a b : Int) : deq (.int a) (.int b) = decide (a = b) := by
  show (a == b) = _
  by_cases e : a = b
  · subst e; simp
  · rw [decide_eq_false e]; exact beq_eq_false_iff_ne.mpr e
theorem deq_str (a b : Str) : deq (.str a) (.str b) = decide (a = b) := by
  show (a == b) = _
  by_cases e : a = b
  · subst e; simp
  · rw [decide_eq_false e]; exact beq_eq_false_iff_ne.mpr e
theorem deq_key (a b : Key) : deq (kD a) (kD b) = decide (a = b) := by
  cases a with
  | inl a =>
    cases b with
    | inl b => exact (deq_int a b).trans (decide_eq_decide.mpr ⟨fun e => by rw [e], fun e => Sum.inl.inj e⟩)
    | inr b => exact (decide_eq_false (fun e => by cases e)).symm
  | inr a =>
    cases b with
    | inl b => exact (decide_eq_false (fun e => by cases e)).symm
    | inr b => exact (deq_str a b).trans (decide_eq_decide.mpr ⟨fun e => by rw [e], fun e => Sum.inr.inj e⟩)
section
variable {Γ : Gm} {H H' : Hp} {O : Addr → Prop} {v : V}
theorem RelP.dct {ds : List (D × D)} (h : RelP Γ H O (.dct ds) v) (dO : ∀ a, Γ.DR a → O a) : ∃ a kvs, v = .ref a ∧ ¬ Γ.DR a ∧ Rd H a (.dK kvs) ∧ RelKs Γ H O ds kvs := by
  rcases h with h | ⟨a, e, n, vs, q, r⟩
  · cases h with | dct n q r => exact ⟨_, _, rfl, fun z => n (dO _ z), q, r⟩
  · exact ⟨a, vs, e, n, Rd.of q, r⟩
theorem RelP.dcn {ds : List (D × D)} (h : RelP Γ H O (.dcn ds) v) (dO : ∀ a, Γ.DR a → O a) : ∃ a ws, v = .ref a ∧ ¬ Γ.DR a ∧ H a = some (DNo a ws) ∧ RelN Γ H O ds ws := by
  rcases h with h | ⟨a, e, n, vs, q, r⟩
  · cases h with | dcn n q r => exact ⟨_, _, rfl, fun z => n (dO _ z), q, r⟩
  · exact ⟨a, vs, e, n, q, r⟩
theorem RelP.key {d : D} {k : Key} (h : RelP Γ H O d v) (e : dKey d = some k) : v = kV k := by
  have := kD_key e
  subst this
  cases k with
  | inl i => exact RelP.int h
  | inr x => exact RelP.str h
/-- what a dict holds, on both sides -/
theorem RelKs.look : ∀ {ds : List (D × D)} {kvs : List (Key × V)} (k : Key), RelKs Γ H O ds kvs →
    (dlook ds (kD k) = none ∧ valV kvs k = none) ∨ ∃ d v, dlook ds (kD k) = some d ∧ valV kvs k = some v ∧ RelD Γ H O d v
  | _, _, _, .nil => .inl ⟨rfl, rfl⟩
  | _, _, k, .cons (d := d) (k := k0) (v := v) h r => by
    by_cases e : k0 = k
    · subst e
      refine .inr ⟨d, v, ?_, valV_pos rfl, h⟩
      unfold dlook
      rw [List.find?_cons_of_pos (by rw [deq_key]; exact decide_eq_true rfl)]
      rfl
    · rename_i ds vs
      have e1 : dlook ((kD k0, d) :: ds) (kD k) = dlook ds (kD k) := by
        unfold dlook
        rw [List.find?_cons_of_neg (by rw [deq_key]; simpa using e)]
      rw [e1, valV_neg (p := (k0, v)) e]
      exact RelKs.look k r
theorem RelKs.length : ∀ {ds : List (D × D)} {kvs : List (Key × V)}, RelKs Γ H O ds kvs → ds.length = kvs.length
  | _, _, .nil => rfl
  | _, _, .cons _ r => by rw [List.length_cons, List.length_cons, RelKs.length r]
theorem RelKs.anyk : ∀ {ds : List (D × D)} {kvs : List (Key × V)} (k : Key), RelKs Γ H O ds kvs → (ds.any fun kv => deq kv.1 (kD k)) = kvs.any fun kv => decide (kv.1 = k)
  | _, _, _, .nil => rfl
  | _, _, k, .cons (k := k0) h r => by rw [List.any_cons, List.any_cons, RelKs.anyk k r, deq_key]
theorem RelKs.repl : ∀ {ds : List (D × D)} {kvs : List (Key × V)} (k : Key) {d : D} {v : V}, RelKs Γ H O ds kvs → RelD Γ H O d v →
    RelKs Γ H O (ds.map fun kv => if deq kv.1 (kD k) = true then (kv.1, d) else kv) (kvs.map fun kv => if kv.1 = k then (kv.1, v) else kv)
  | _, _, _, _, _, .nil, _ => .nil
  | _, _, k, _, _, .cons (k := k0) h r, q => by
    rw [List.map_cons, List.map_cons]
    by_cases e : k0 = k
    · rw [if_pos (show deq (kD k0) (kD k) = true by rw [deq_key]; exact decide_eq_true e), if_pos e]
      exact .cons q (RelKs.repl k r q)
    · rw [if_neg (show ¬ deq (kD k0) (kD k) = true by rw [deq_key]; simpa using e), if_neg e]
      exact .cons h (RelKs.repl k r q)
theorem RelKs.snoc : ∀ {ds : List (D × D)} {kvs : List (Key × V)} (k : Key) {d : D} {v : V}, RelKs Γ H O ds kvs → RelD Γ H O d v → RelKs Γ H O (ds ++ [(kD k, d)]) (kvs ++ [(k, v)])
  | _, _, _, _, _, .nil, q => .cons q .nil
  | _, _, k, _, _, .cons h r, q => .cons h (RelKs.snoc k r q)
theorem RelKs.put {ds : List (D × D)} {kvs : List (Key × V)} (k : Key) {d : D} {v : V} (r : RelKs Γ H O ds kvs) (q : RelD Γ H O d v) : RelKs Γ H O (dput ds (kD k) d) (putK kvs k v) := by
  unfold dput putK
  rw [r.anyk k]
  split
  · exact r.repl k q
  · exact r.snoc k q
end
/-! ### comparisons -/
section
variable {X : Cx}
/-- what a comparison must give -/
def rB (K : PySem.W.Frag) (op : CmpOp) : R2 := fun x y H Q => ∃ (Γ : Gm) (O : Addr → Prop) (d e : D) (b : Bool), Γ.K = K ∧ OK' Γ H O ∧ RelP Γ H O d x ∧ RelP Γ H O e y ∧ cmpSem op d e = some b ∧ Q (.bl b) H
theorem read_of {n : Nat} {Γ : Gm} {H : Hp} {O : Addr → Prop} {d : D} {v : V} {u : Value} {pins : List (Addr × Obj)} {σ : St} {s : Shared} (I : Inv X pins σ H s) (hK : Γ.K = X.K) (p : pl n d = true) (r : RelP Γ H O d v) (rv : RelV v u) : ∃ as, Reads s.heap u (toPy d) as := by
  have q := r.dp p
  rw [hK] at q
  exact Dp.reads I _ _ _ q rv
theorem any_deq (xs : List D) (d : D) : ((toPys xs).any fun y => PyData.eqv y (toPy d)) = xs.any fun y => deq y d := by
  rw [toPys_map, List.any_map]; rfl
theorem min_le100 {a b n : Nat} (h : a ≤ 100) (hu : n + 120 < cLine) : n + min a b < cLine := Nat.lt_of_le_of_lt (Nat.add_le_add_left (Nat.le_trans (Nat.min_le_left _ _) h) _) (by omega)
theorem min_le100' {a b n : Nat} (h : a ≤ 100) (hu : n + 120 < cLine) : n + 1 + min a b < cLine := Nat.lt_of_le_of_lt (Nat.add_le_add_left (Nat.le_trans (Nat.min_le_left _ _) h) _) (by omega)
theorem v_eq (hu : X.A.units + 120 < cLine) : OpR X (compareOp .Eq) (rB X.K .Eq) := by
  intro pins s σ H x y v u Q I rx ry ⟨Γ, O, d, e, b, hK, ok, px, py, hs, q⟩
  unfold cmpSem at hs
  simp only at hs
  split at hs
  · rename_i hp
    rw [Bool.and_eq_true] at hp
    cases hs
    obtain ⟨as, ra⟩ := read_of I hK hp.1 px rx
    obtain ⟨bs, rb⟩ := read_of I hK hp.2 py ry
    exact PySem.SeqAt.eq_plain ra rb (pl_plain _ _ hp.1).1 (pl_plain _ _ hp.2).1 (min_le100 (pl_plain _ _ hp.1).2 hu) ⟨.bl _, H, I, rfl, q⟩
  · cases hs
theorem v_ne (hu : X.A.units + 120 < cLine) : OpR X (compareOp .NotEq) (rB X.K .NotEq) := by
  intro pins s σ H x y v u Q I rx ry ⟨Γ, O, d, e, b, hK, ok, px, py, hs, q⟩
  unfold cmpSem at hs
  simp only at hs
  split at hs
  · rename_i hp
    rw [Bool.and_eq_true] at hp
    cases hs
    obtain ⟨as, ra⟩ := read_of I hK hp.1 px rx
    obtain ⟨bs, rb⟩ := read_of I hK hp.2 py ry
    exact PySem.SeqAt.ne_plain ra rb (pl_plain _ _ hp.1).1 (pl_plain _ _ hp.2).1 (min_le100 (pl_plain _ _ hp.1).2 hu) ⟨.bl _, H, I, rfl, q⟩
  · cases hs
theorem v_ord {op : CmpOp} {f : Int → Int → Bool} (h : OpR X (compareOp op) (rI0 fun i j => .bl (f i j))) (hc : ∀ d e b, cmpSem op d e = some b → ∃ i j, d = .int i ∧ e = .int j ∧ b = f i j) : OpR X (compareOp op) (rB X.K op) := by
  intro pins s σ H x y v u Q I rx ry ⟨Γ, O, d, e, b, hK, ok, px, py, hs, q⟩
  obtain ⟨i, j, rfl, rfl, rfl⟩ := hc _ _ _ hs
  exact h pins s σ H x y v u Q I rx ry ⟨i, j, px.int, py.int, q⟩
theorem v_lt (hu : X.A.units + 120 < cLine) : OpR X (compareOp .Lt) (rB X.K .Lt) := by
  intro pins s σ H x y v u Q I rx ry ⟨Γ, O, d, e, b, hK, ok, px, py, hs, q⟩
  cases d <;> cases e <;> simp only [cmpSem, reduceCtorEq, Option.some.injEq] at hs
  case int.int i j =>
    subst hs
    exact op_lt pins s σ H x y v u Q I rx ry ⟨i, j, px.int, py.int, q⟩
  case tup.tup a c =>
    split at hs
    · rename_i hp
      rw [Bool.and_eq_true, Bool.and_eq_true] at hp
      cases hs
      obtain ⟨as, ra⟩ := read_of I hK hp.1.1 px rx
      obtain ⟨bs, rb⟩ := read_of I hK hp.1.2 py ry
      exact PySem.W.rcLt_alike _ _ _ _ _ _ _ _ ra rb hp.2 (by simp [toPy]) (min_le100 (pl_plain _ _ hp.1.1).2 hu) _ _ _ _ ⟨.bl _, H, I, rfl, q⟩
    · cases hs
theorem v_le : OpR X (compareOp .LtE) (rB X.K .LtE) := v_ord op_le fun d e b h => by
  cases d <;> cases e <;> simp only [cmpSem, reduceCtorEq, Option.some.injEq] at h
  exact ⟨_, _, rfl, rfl, h.symm⟩
theorem v_gt : OpR X (compareOp .Gt) (rB X.K .Gt) := v_ord op_gt fun d e b h => by
  cases d <;> cases e <;> simp only [cmpSem, reduceCtorEq, Option.some.injEq] at h
  exact ⟨_, _, rfl, rfl, h.symm⟩
theorem v_ge : OpR X (compareOp .GtE) (rB X.K .GtE) := v_ord op_ge fun d e b h => by
  cases d <;> cases e <;> simp only [cmpSem, reduceCtorEq, Option.some.injEq] at h
  exact ⟨_, _, rfl, rfl, h.symm⟩
theorem v_inG (hu : X.A.units + 120 < cLine) {neg : Bool} {op : CmpOp} (ho : (op = .In ∧ neg = false) ∨ (op = .NotIn ∧ neg = true)) {pins : List (Addr × Obj)} {s : Shared} {σ : St} {H : Hp} {x y : V} {v u : Value} {Q : VK} (I : Inv X pins σ H s) (rx : RelV x v) (ry : RelV y u)
    {Γ : Gm} {O : Addr → Prop} {d e : D} {b : Bool} (hK : Γ.K = X.K) (ok : OK' Γ H O) (px : RelP Γ H O d x) (py : RelP Γ H O e y) (hs : inSem d e = some b) (q : Q (.bl (if neg then !b else b)) H) : wpAny (model X.prog X.w) X.A (compareOp op v u) (EP X pins σ Q) X.xe s := by
  have fin : EP X pins σ Q (.bool (if neg then !b else b)) s := ⟨.bl _, H, I, rfl, q⟩
  cases e <;> simp only [inSem, reduceCtorEq] at hs
  case tup xs =>
    split at hs
    · rename_i hp
      rw [Bool.and_eq_true] at hp
      cases hs
      obtain ⟨as, ra⟩ := read_of I hK hp.1 px rx
      obtain ⟨bs, rb⟩ := read_of I hK hp.2 py ry
      have p2 := pl_plain _ _ hp.2
      simp only [toPy, PyData.plain, PyData.depth, DP] at p2 rb
      rcases ho with ⟨rfl, rfl⟩ | ⟨rfl, rfl⟩
      · exact PySem.SeqAt.in_tuple_data rb ra p2.1 (pl_plain _ _ hp.1).1 (min_le100' (by omega) hu) (by rw [any_deq]; exact fin)
      · exact PySem.SeqAt.notIn_tuple_data rb ra p2.1 (pl_plain _ _ hp.1).1 (min_le100' (by omega) hu) (by rw [any_deq]; exact fin)
    · cases hs
  case lst xs =>
    split at hs
    · rename_i hp
      rw [Bool.and_eq_true] at hp
      cases hs
      obtain ⟨as, ra⟩ := read_of I hK hp.1 px rx
      obtain ⟨bs, rb⟩ := read_of I hK hp.2 py ry
      have p2 := pl_plain _ _ hp.2
      simp only [toPy, PyData.plain, PyData.depth, DP] at p2 rb
      rcases ho with ⟨rfl, rfl⟩ | ⟨rfl, rfl⟩
      · exact PySem.SeqAt.in_list_data rb ra p2.1 (pl_plain _ _ hp.1).1 (min_le100' (by omega) hu) (by rw [any_deq]; exact fin)
      · exact PySem.SeqAt.notIn_list_data rb ra p2.1 (pl_plain _ _ hp.1).1 (min_le100' (by omega) hu) (by rw [any_deq]; exact fin)
    · cases hs
  case dct kvs =>
    split at hs
    · rename_i hp
      cases hs
      obtain ⟨k, hk⟩ := Option.isSome_iff_exists.mp hp
      obtain ⟨a, ks, rfl, _, hr, rk⟩ := py.dct ok.d
      have ex := px.key hk
      have g : DGet H a x (valV ks k) := .inl ⟨ks, k, hr, ex, rfl⟩
      have eu : u = .ref a := ry
      subst eu
      have es : (valV ks k).isSome = (dlook kvs d).isSome := by
        rw [kD_key hk]
        rcases rk.look k with ⟨h1, h2⟩ | ⟨_, _, h1, h2, _⟩
        · rw [h1, h2]; rfl
        · rw [h1, h2]; rfl
      rcases ho with ⟨rfl, rfl⟩ | ⟨rfl, rfl⟩
      · exact d_in (by omega) I g rx fun s' I' => ⟨.bl _, H, I', by rw [es]; rfl, q⟩
      · exact d_notIn (by omega) I g rx fun s' I' => ⟨.bl _, H, I', by rw [es]; rfl, q⟩
    · split at hs
      · rename_i hp
        cases hs
        obtain ⟨rfl, hp⟩ := hp
        obtain ⟨κ, hk⟩ := Option.isSome_iff_exists.mp hp
        obtain ⟨a, ks, rfl, _, hr, rk⟩ := py.dct ok.d
        cases rk
        obtain ⟨b, rfl, rd⟩ := nkey_ref hk px
        cases (show v = Value.ref b from rx)
        cases (show u = Value.ref a from ry)
        obtain ⟨hs, hm⟩ := dk_nil I hr
        have hroom : (nestedKind X.prog X.w).room X.A.in1 := show X.A.units + 1 + 8 < cLine by omega
        have hk' := nkey_is I hK hk rd
        rcases ho with ⟨rfl, rfl⟩ | ⟨rfl, rfl⟩
        · exact in_keyed (knd := nestedKind X.prog X.w) (kvs := []) hroom hk' hs ⟨[], hm, rfl⟩ ⟨.bl _, H, I.tok _, rfl, q⟩
        · exact notIn_keyed (knd := nestedKind X.prog X.w) (kvs := []) hroom hk' hs ⟨[], hm, rfl⟩ ⟨.bl _, H, I.tok _, rfl, q⟩
      · cases hs
  case dcn kvs =>
    obtain ⟨κ, hk, rfl⟩ := Option.map_eq_some_iff.mp hs
    obtain ⟨a, ws, rfl, _, hr, rk⟩ := py.dcn ok.d
    obtain ⟨b, rfl, rd⟩ := nkey_ref hk px
    cases (show v = Value.ref b from rx)
    cases (show u = Value.ref a from ry)
    obtain ⟨z, hs, xs, en, hm⟩ := dn_at I hK hr rk
    have hroom : (nestedKind X.prog X.w).room X.A.in1 := show X.A.units + 1 + 8 < cLine by omega
    have hk' := nkey_is I hK hk rd
    have es : (valueAt (pairsH xs) κ).isSome = (nlook kvs κ).isSome := by
      rw [valueAt_pairsH]
      rcases rk.look κ en with ⟨h1, h2⟩ | ⟨_, _, _, _, h1, h2, _⟩
      · rw [h1, h2]; rfl
      · rw [h1, h2]; rfl
    rcases ho with ⟨rfl, rfl⟩ | ⟨rfl, rfl⟩
    · exact in_keyed (knd := nestedKind X.prog X.w) hroom hk' hs ⟨xs, hm, rfl⟩ ⟨.bl _, H, I.tok _, by rw [es]; rfl, q⟩
    · exact notIn_keyed (knd := nestedKind X.prog X.w) hroom hk' hs ⟨xs, hm, rfl⟩ ⟨.bl _, H, I.tok _, by rw [es]; rfl, q⟩
  case str z =>
    cases d <;> simp only [reduceCtorEq] at hs
    case str w' =>
      cases hs
      rcases ho with ⟨rfl, rfl⟩ | ⟨rfl, rfl⟩
      · exact op_in_str pins s σ H x y v u Q I rx ry ⟨_, _, px.str, py.str, q⟩
      · exact op_notin_str pins s σ H x y v u Q I rx ry ⟨_, _, px.str, py.str, q⟩
theorem v_in (hu : X.A.units + 120 < cLine) : OpR X (compareOp .In) (rB X.K .In) := by
  intro pins s σ H x y v u Q I rx ry ⟨Γ, O, d, e, b, hK, ok, px, py, hs, q⟩
  exact v_inG hu (.inl ⟨rfl, rfl⟩) I rx ry hK ok px py hs (q)
theorem v_notin (hu : X.A.units + 120 < cLine) : OpR X (compareOp .NotIn) (rB X.K .NotIn) := by
  intro pins s σ H x y v u Q I rx ry ⟨Γ, O, d, e, b, hK, ok, px, py, hs, q⟩
  simp only [cmpSem] at hs
  cases h : inSem d e with
  | none => rw [h] at hs; cases hs
  | some c =>
    rw [h] at hs
    cases hs
    exact v_inG hu (.inr ⟨rfl, rfl⟩) I rx ry hK ok px py h (q)
theorem isNon_v {Γ : Gm} {H : Hp} {O : Addr → Prop} {d : D} {x : V} (px : RelP Γ H O d x) : decide (x = .non) = isNon d := by
  rcases px with h | ⟨a, rfl, _, h⟩
  · cases h <;> first | rfl | exact decide_eq_false (fun z => by cases z)
  · cases d with
    | lst ds => exact decide_eq_false (fun z => by cases z)
    | dct ds => exact decide_eq_false (fun z => by cases z)
    | dcn ds => exact decide_eq_false (fun z => by cases z)
    | _ => exact h.elim
theorem v_is : OpR X (compareOp .Is) (rB X.K .Is) := by
  intro pins s σ H x y v u Q I rx ry ⟨Γ, O, d, e, b, hK, ok, px, py, hs, q⟩
  by_cases he : e = .non
  · subst he
    have : b = isNon d := by
      cases d <;> simp only [cmpSem, Option.some.injEq] at hs <;> exact hs.symm
    subst this
    exact op_isN pins s σ H x y v u Q I rx ry ⟨py.non, by rw [isNon_v px]; exact q⟩
  · cases d <;> cases e <;> simp only [cmpSem, reduceCtorEq, Option.some.injEq] at hs <;> first | exact absurd rfl he | skip
    subst hs
    exact op_isBl pins s σ H x y v u Q I rx ry ⟨_, _, px.bl, py.bl, q⟩
theorem v_isnot : OpR X (compareOp .IsNot) (rB X.K .IsNot) := by
  intro pins s σ H x y v u Q I rx ry ⟨Γ, O, d, e, b, hK, ok, px, py, hs, q⟩
  by_cases he : e = .non
  · subst he
    have : b = !isNon d := by
      cases d <;> simp only [cmpSem, Option.some.injEq] at hs <;> exact hs.symm
    subst this
    exact op_notN pins s σ H x y v u Q I rx ry ⟨py.non, by rw [isNon_v px]; exact q⟩
  · cases d <;> cases e <;> simp only [cmpSem, reduceCtorEq, Option.some.injEq] at hs <;> first | exact absurd rfl he | skip
    subst hs
    exact op_notBl pins s σ H x y v u Q I rx ry ⟨_, _, px.bl, py.bl, q⟩
theorem v_cmp (hu : X.A.units + 120 < cLine) (op : CmpOp) : OpR X (compareOp op) (rB X.K op) := by
  cases op
  case Eq => exact v_eq hu
  case NotEq => exact v_ne hu
  case Lt => exact v_lt hu
  case LtE => exact v_le
  case Gt => exact v_gt
  case GtE => exact v_ge
  case In => exact v_in hu
  case NotIn => exact v_notin hu
  case Is => exact v_is
  case IsNot => exact v_isnot
end
end SG

set_option Elab.async false
set_option linter.all false
set_option maxRecDepth 100000
set_option maxHeartbeats 4000000
namespace SG
open PySem PySem.Spec L2
open PyProof.Rows hiding St
/-! ### more combinators -/
def dAndV (a b : DE) : DE := fun C ρ => do
  let x ← a C ρ
  match x with
  | .bl true => b C ρ
  | .bl false => M.pure (.bl false)
  | _ => fun _ => .fail
def dOrV (a b : DE) : DE := fun C ρ => do
  let x ← a C ρ
  match x with
  | .bl true => M.pure (.bl true)
  | .bl false => b C ρ
  | _ => fun _ => .fail
def dNotV (a : DE) : DE := fun C ρ => do
  let x ← a C ρ
  match x with
  | .bl b => M.pure (.bl (!b))
  | _ => fun _ => .fail
section
variable {S : Sta} {C : Ctx} {E : XK} {X : Cx} {e a b c : Expr} {t ta tb tc : DE} {u ua ub : DT} {pos : Pos}
theorem aft_nw {Γ : Gm} {δ : Dr} {H H' : Hp} (hK : X.K = S.K) (hS : Γ.toSta = S) (h : Same H H') (d : DrawRel Γ δ H) (t : LamX.Tabs Γ.tabs H) (n : NW X.K H') : Aft Γ δ H H' := aft_same h d t (by rw [hK, ← hS] at n; exact n)
/-! ### comparisons -/
theorem cmp_core {op : CmpOp} (hK : X.K = S.K) {σ : St} {H : Hp} {Q : Bool → Hp → Prop} (h : rdT S C E (dCmp op ta tb) σ H Q) :
    tOp (rB X.K op) (rdP S C E ta) (rdP S C E tb) σ H (fun v H' => ∃ k, v = .bl k ∧ (NW X.K H' → Q k H')) := by
  obtain ⟨Γ, F, H0, ρ, δ, hS, R, o⟩ := h
  refine ⟨Γ, F, H0, ρ, δ, hS, R, o.bind.imp fun d1 δ1 H1 A1 o1 x r1 => ⟨Γ, F, H0, ρ, δ1, hS, R.aft A1, o1.bind.imp fun d2 δ2 H2 A2 o2 y r2 => ?_⟩⟩
  obtain ⟨r, e, q⟩ := o2.opt
  have R2 := (R.aft A1).aft A2
  exact ⟨Γ, _, d1, d2, r, by rw [hK, ← hS], R2.ok', r1.mvA A2 R.dO, r2, e, ⟨r, rfl, fun nw => q H2 R2.refl⟩⟩
theorem t_cmp {op : CmpOp} (hK : X.K = S.K) (hu : X.A.units + 120 < cLine) (ha : PE X a (rdP S C E ta)) (hb : PE X b (rdP S C E tb)) (hm : behindInMarks op b = false) : PT X (.Compare a [op] [b] pos) (rdT S C E (dCmp op ta tb)) :=
  (pt_cmpR (v_cmp hu op) ha hb hm).by' fun σ H Q h => cmp_core hK h
/-- a test's reading as a value's -/
theorem bl_of {σ : St} {H : Hp} {Q : VK} (h : rdE S C E (dBl u) σ H Q) : rdT S C E u σ H (fun b H' => Q (.bl b) H') := by
  obtain ⟨Γ, F, H0, ρ, δ, hS, R, o⟩ := h
  exact ⟨Γ, F, H0, ρ, δ, hS, R, o.bind.imp fun b δ1 H1 A1 o1 => o1.pure H1 (R.aft A1).refl _ (.bl b)⟩
theorem OpR_tOp_mono {r : R2} {t1 t2 : TE} (h2 : ∀ σ H Q Q', (∀ v H', Q v H' → Q' v H') → t2 σ H Q → t2 σ H Q') (h1 : ∀ σ H Q Q', (∀ v H', Q v H' → Q' v H') → t1 σ H Q → t1 σ H Q') (hr : ∀ x y H Q Q', (∀ v H', Q v H' → Q' v H') → r x y H Q → r x y H Q') {σ : St} {H : Hp} {Q Q' : VK} (k : ∀ v H', Q v H' → Q' v H') (h : tOp r t1 t2 σ H Q) : tOp r t1 t2 σ H Q' :=
  h1 σ H _ _ (fun x H1 q => h2 σ H1 _ _ (fun y H2 q => hr x y H2 Q Q' k q) q) h
theorem rdP_mono {σ : St} {H : Hp} {Q Q' : VK} (k : ∀ v H', Q v H' → Q' v H') (h : rdP S C E t σ H Q) : rdP S C E t σ H Q' := by
  obtain ⟨Γ, F, H0, ρ, δ, hS, R, o⟩ := h
  exact ⟨Γ, F, H0, ρ, δ, hS, R, o.imp fun d δ' H' A q v r => k v H' (q v r)⟩
theorem rdE_mono {σ : St} {H : Hp} {Q Q' : VK} (k : ∀ v H', Q v H' → Q' v H') (h : rdE S C E t σ H Q) : rdE S C E t σ H Q' := by
  obtain ⟨Γ, F, H0, ρ, δ, hS, R, o⟩ := h
  exact ⟨Γ, F, H0, ρ, δ, hS, R, o.imp fun d δ' H' A q v r => k v H' (q v r)⟩
theorem rdT_mono {σ : St} {H : Hp} {Q Q' : Bool → Hp → Prop} (k : ∀ v H', Q v H' → Q' v H') (h : rdT S C E u σ H Q) : rdT S C E u σ H Q' := by
  obtain ⟨Γ, F, H0, ρ, δ, hS, R, o⟩ := h
  exact ⟨Γ, F, H0, ρ, δ, hS, R, o.imp fun d δ' H' A q => k d H' q⟩
theorem rB_mono {K : PySem.W.Frag} {op : CmpOp} {x y : V} {H : Hp} {Q Q' : VK} (k : ∀ v H', Q v H' → Q' v H') (h : rB K op x y H Q) : rB K op x y H Q' := by
  obtain ⟨Γ, O, d, e, r, h1, h2, h3, h4, h5, q⟩ := h
  exact ⟨Γ, O, d, e, r, h1, h2, h3, h4, h5, k _ _ q⟩
theorem e_cmp {op : CmpOp} (hK : X.K = S.K) (hu : X.A.units + 120 < cLine) (ha : PE X a (rdP S C E ta)) (hb : PE X b (rdP S C E tb)) (hm : behindInMarks op b = false) : PE X (.Compare a [op] [b] pos) (rdE S C E (dBl (dCmp op ta tb))) :=
  (pe_cmpR (v_cmp hu op) ha hb hm).by' fun σ H Q h => by
    have q := cmp_core hK (bl_of h)
    refine rdP_mono (fun x H1 q1 => rdP_mono (fun y H2 q2 => rB_mono (fun v H3 q3 nw => ?_) q2) q1) q
    obtain ⟨k, e, q4⟩ := q3
    rw [e]; exact q4 nw
/-! ### a op b op' c -/
theorem chain_core {op op' : CmpOp} (hK : X.K = S.K) {σ : St} {H : Hp} {Q : Bool → Hp → Prop} (h : rdT S C E (dChain op op' ta tb tc) σ H Q) :
    tChain (rB X.K op) (rB X.K op') (rdP S C E ta) (rdP S C E tb) (rdP S C E tc) σ H (fun v H' => ∃ k, v = .bl k ∧ (NW X.K H' → Q k H')) := by
  obtain ⟨Γ, F, H0, ρ, δ, hS, R, o⟩ := h
  refine ⟨Γ, F, H0, ρ, δ, hS, R, o.bind.imp fun d1 δ1 H1 A1 o1 x r1 => ⟨Γ, F, H0, ρ, δ1, hS, R.aft A1, o1.bind.imp fun d2 δ2 H2 A2 o2 y r2 => ?_⟩⟩
  have R2 := (R.aft A1).aft A2
  obtain ⟨k, e, q⟩ := o2.bind.opt
  refine ⟨Γ, _, d1, d2, k, by rw [hK, ← hS], R2.ok', r1.mvA A2 R.dO, r2, e, k, rfl, ?_⟩
  have q := q H2 R2.refl
  cases k with
  | true =>
    rw [if_pos rfl]
    refine ⟨Γ, F, H0, ρ, δ2, hS, R2, OutG.bind q |>.imp fun d3 δ3 H3 A3 o3 z r3 => ?_⟩
    obtain ⟨k', e', q'⟩ := o3.opt
    have R3 := R2.aft A3
    exact ⟨Γ, _, d2, d3, k', by rw [hK, ← hS], R3.ok', r2.mvA A3 R.dO, r3, e', k', rfl, fun nw => q' H3 R3.refl⟩
  | false =>
    rw [if_neg Bool.false_ne_true]
    exact ⟨false, rfl, fun nw => OutG.pure q H2 R2.refl⟩
theorem t_chain {op op' : CmpOp} (hK : X.K = S.K) (hu : X.A.units + 120 < cLine) (ha : PE X a (rdP S C E ta)) (hb : PE X b (rdP S C E tb)) (hc : PE X c (rdP S C E tc)) (hm : lastMarks [op, op'] [b, c] = false) : PT X (.Compare a [op, op'] [b, c] pos) (rdT S C E (dChain op op' ta tb tc)) :=
  (pt_chain (v_cmp hu op) (v_cmp hu op') ha hb hc hm).by' fun σ H Q h => chain_core hK h
theorem tChain_mono {r r' : R2} {t1 t2 t3 : TE} (h1 : ∀ σ H (Q Q' : VK), (∀ v H', Q v H' → Q' v H') → t1 σ H Q → t1 σ H Q') (h2 : ∀ σ H (Q Q' : VK), (∀ v H', Q v H' → Q' v H') → t2 σ H Q → t2 σ H Q') (h3 : ∀ σ H (Q Q' : VK), (∀ v H', Q v H' → Q' v H') → t3 σ H Q → t3 σ H Q')
    (hr : ∀ x y H (Q Q' : VK), (∀ v H', Q v H' → Q' v H') → r x y H Q → r x y H Q') (hr' : ∀ x y H (Q Q' : VK), (∀ v H', Q v H' → Q' v H') → r' x y H Q → r' x y H Q') {σ : St} {H : Hp} {Q Q' : VK} (k : ∀ v H', Q v H' → Q' v H') (h : tChain r r' t1 t2 t3 σ H Q) : tChain r r' t1 t2 t3 σ H Q' :=
  h1 σ H _ _ (fun x H1 q => h2 σ H1 _ _ (fun y H2 q => hr x y H2 _ _ (fun z H3 ⟨b, e, q⟩ => ⟨b, e, by
    cases b with
    | true => rw [if_pos rfl] at q ⊢; exact h3 σ H3 _ _ (fun w' H4 q => hr' y w' H4 _ _ k q) q
    | false => rw [if_neg Bool.false_ne_true] at q ⊢; exact k _ _ q⟩) q) q) h
theorem e_chain {op op' : CmpOp} (hK : X.K = S.K) (hu : X.A.units + 120 < cLine) (ha : PE X a (rdP S C E ta)) (hb : PE X b (rdP S C E tb)) (hc : PE X c (rdP S C E tc)) (hm : lastMarks [op, op'] [b, c] = false) : PE X (.Compare a [op, op'] [b, c] pos) (rdE S C E (dBl (dChain op op' ta tb tc))) :=
  (pe_chain (v_cmp hu op) (v_cmp hu op') ha hb hc hm).by' fun σ H Q h => by
    have q := chain_core hK (bl_of h)
    refine tChain_mono (r := rB X.K op) (r' := rB X.K op') (t1 := rdP S C E ta) (t2 := rdP S C E tb) (t3 := rdP S C E tc) (fun _ _ _ _ k => rdP_mono k) (fun _ _ _ _ k => rdP_mono k) (fun _ _ _ _ k => rdP_mono k) (fun _ _ _ _ _ k => rB_mono k) (fun _ _ _ _ _ k => rB_mono k) (fun v H' q nw => ?_) q
    obtain ⟨k, e, q4⟩ := q
    rw [e]; exact q4 nw
/-! ### a value as a test; and, or, not -/
theorem t_val (h : PE X e (rdE S C E t)) (he : ∀ whole, isTrue e X.env whole = (do let v ← whole; standAt e.pos; holding [v] (truthy v))) : PT X e (rdT S C E (dTst t)) :=
  (pt_val h he).mono fun σ H Q ⟨Γ, F, H0, ρ, δ, hS, R, o⟩ => ⟨Γ, F, H0, ρ, δ, hS, R, o.bind.imp fun d δ1 H1 A1 o1 v r => by
    obtain ⟨b, e, q⟩ := o1.opt
    cases d <;> simp only [isBl, reduceCtorEq, Option.some.injEq] at e
    subst e
    exact ⟨_, r.i_bl, q H1 (R.aft A1).refl⟩⟩
theorem tA1 {k : Bool} {Γ : Gm} {H : Hp} {Q : Bool → Hp → Prop} {m : M Bool} {δ : Dr} : True := trivial
theorem and_core {σ : St} {H : Hp} {Q : Bool → Hp → Prop} (h : rdT S C E (dAnd ua ub) σ H Q) : tAnd (rdT S C E ua) (rdT S C E ub) σ H Q := by
  obtain ⟨Γ, F, H0, ρ, δ, hS, R, o⟩ := h
  refine ⟨Γ, F, H0, ρ, δ, hS, R, o.bind.imp fun k δ1 H1 A1 o1 => ?_⟩
  cases k with
  | true => rw [if_pos rfl]; exact ⟨Γ, F, H0, ρ, δ1, hS, R.aft A1, o1⟩
  | false => rw [if_neg Bool.false_ne_true]; exact o1.pure H1 (R.aft A1).refl
theorem or_core {σ : St} {H : Hp} {Q : Bool → Hp → Prop} (h : rdT S C E (dOr ua ub) σ H Q) : tOr (rdT S C E ua) (rdT S C E ub) σ H Q := by
  obtain ⟨Γ, F, H0, ρ, δ, hS, R, o⟩ := h
  refine ⟨Γ, F, H0, ρ, δ, hS, R, o.bind.imp fun k δ1 H1 A1 o1 => ?_⟩
  cases k with
  | true => rw [if_pos rfl]; exact o1.pure H1 (R.aft A1).refl
  | false => rw [if_neg Bool.false_ne_true]; exact ⟨Γ, F, H0, ρ, δ1, hS, R.aft A1, o1⟩
variable {rest : List Expr}
theorem w_and (ha : PT X a (rdT S C E ua)) (hb : PW X (.BoolOp .And (b :: rest) pos) (rdT S C E ub)) : PW X (.BoolOp .And (a :: b :: rest) pos) (rdT S C E (dAnd ua ub)) := (pw_and ha hb).mono fun _ _ _ => and_core
theorem w_or (ha : PT X a (rdT S C E ua)) (hb : PW X (.BoolOp .Or (b :: rest) pos) (rdT S C E ub)) : PW X (.BoolOp .Or (a :: b :: rest) pos) (rdT S C E (dOr ua ub)) := (pw_or ha hb).mono fun _ _ _ => or_core
theorem t_not (ha : PT X a (rdT S C E ua)) : PT X (.UnaryOp .Not a pos) (rdT S C E (dNot ua)) := (pt_not ha).mono fun σ H Q ⟨Γ, F, H0, ρ, δ, hS, R, o⟩ =>
  ⟨Γ, F, H0, ρ, δ, hS, R, o.bind.imp fun k δ1 H1 A1 o1 => o1.pure H1 (R.aft A1).refl⟩
theorem e_ifExp (hc : PT X c (rdT S C E u)) (ha : PE X a (rdE S C E ta)) (hb : PE X b (rdE S C E tb)) : PE X (.IfExp c a b pos) (rdE S C E (dIf u ta tb)) := (pe_ifExp hc ha hb).mono fun σ H Q ⟨Γ, F, H0, ρ, δ, hS, R, o⟩ =>
  ⟨Γ, F, H0, ρ, δ, hS, R, o.bind.imp fun k δ1 H1 A1 o1 => by
    cases k with
    | true => rw [if_pos rfl]; exact ⟨Γ, F, H0, ρ, δ1, hS, R.aft A1, o1⟩
    | false => rw [if_neg Bool.false_ne_true]; exact ⟨Γ, F, H0, ρ, δ1, hS, R.aft A1, o1⟩⟩
theorem e_and (ha : PE X a (rdE S C E ta)) (hb : PE X (.BoolOp .And (b :: rest) pos) (rdE S C E tb)) : PE X (.BoolOp .And (a :: b :: rest) pos) (rdE S C E (dAndV ta tb)) := (pe_and ha hb).mono fun σ H Q ⟨Γ, F, H0, ρ, δ, hS, R, o⟩ =>
  ⟨Γ, F, H0, ρ, δ, hS, R, o.bind.imp fun d δ1 H1 A1 o1 v r => by
    cases d with
    | bl b => exact ⟨b, r.i_bl, by
      cases b with
      | true => rw [if_pos rfl]; exact ⟨Γ, F, H0, ρ, δ1, hS, R.aft A1, o1⟩
      | false => rw [if_neg Bool.false_ne_true]; exact o1.pure H1 (R.aft A1).refl _ (.bl _)⟩
    | _ => exact o1.elim⟩
theorem e_or (ha : PE X a (rdE S C E ta)) (hb : PE X (.BoolOp .Or (b :: rest) pos) (rdE S C E tb)) : PE X (.BoolOp .Or (a :: b :: rest) pos) (rdE S C E (dOrV ta tb)) := (pe_or ha hb).mono fun σ H Q ⟨Γ, F, H0, ρ, δ, hS, R, o⟩ =>
  ⟨Γ, F, H0, ρ, δ, hS, R, o.bind.imp fun d δ1 H1 A1 o1 v r => by
    cases d with
    | bl b => exact ⟨b, r.i_bl, by
      cases b with
      | true => rw [if_pos rfl]; exact o1.pure H1 (R.aft A1).refl _ (.bl _)
      | false => rw [if_neg Bool.false_ne_true]; exact ⟨Γ, F, H0, ρ, δ1, hS, R.aft A1, o1⟩⟩
    | _ => exact o1.elim⟩
theorem e_not (ha : PE X a (rdE S C E ta)) : PE X (.UnaryOp .Not a pos) (rdE S C E (dNotV ta)) := (pe_not ha).mono fun σ H Q ⟨Γ, F, H0, ρ, δ, hS, R, o⟩ =>
  ⟨Γ, F, H0, ρ, δ, hS, R, o.bind.imp fun d δ1 H1 A1 o1 v r => by
    cases d with
    | bl b => exact ⟨b, r.i_bl, o1.pure H1 (R.aft A1).refl _ (.bl _)⟩
    | _ => exact o1.elim⟩
theorem e_neg (ha : PE X a (rdE S C E ta)) : PE X (.UnaryOp .USub a pos) (rdE S C E (dNeg ta)) := (pe_un un_neg ha).mono fun σ H Q ⟨Γ, F, H0, ρ, δ, hS, R, o⟩ =>
  ⟨Γ, F, H0, ρ, δ, hS, R, o.bind.imp fun d δ1 H1 A1 o1 v r => by
    cases d with
    | int b => exact ⟨b, r.i_int, o1.pure H1 (R.aft A1).refl _ (.int _)⟩
    | _ => exact o1.elim⟩
/-! ### argument lists, displays -/
theorem a_nil : PA X [] (rdA S C E dNil) := pa_nil.mono fun σ H Q ⟨Γ, F, H0, ρ, δ, hS, R, o⟩ => o.pure H R.refl _ .nil
variable {es : List Expr} {r : DA}
theorem a_cons (ha : PE X e (rdE S C E t)) (hr : PA X es (rdA S C E r)) (hs : starEach (e :: es) X.env = (false, eval e X.env) :: starEach es X.env) : PA X (e :: es) (rdA S C E (dCons t r)) :=
  (pa_cons ha hr hs).mono fun σ H Q ⟨Γ, F, H0, ρ, δ, hS, R, o⟩ => ⟨Γ, F, H0, ρ, δ, hS, R, o.bind.imp fun d δ1 H1 A1 o1 v r1 =>
    ⟨Γ, F, H0, ρ, δ1, hS, R.aft A1, o1.bind.imp fun ds δ2 H2 A2 o2 vs r2 => o2.pure H2 ((R.aft A1).aft A2).refl _ (.cons (r1.ext (A2.ext.mono R.dO)) r2)⟩⟩
theorem line_of {k : List D → D} {xs : List D} {r : D} (h : lineD k xs = some r) : xs.length ≤ LINE ∧ r = k xs := by
  unfold lineD at h
  split at h
  · rename_i hl; cases h; exact ⟨hl, rfl⟩
  · cases h
theorem e_tup {x1 : Nat} (hK : X.K = S.K) (h : PA X es (rdA S C E r)) : PE X (.Tuple es x1 pos) (rdE S C E (dTup r)) :=
  (pe_tupN h).by' fun σ H Q ⟨Γ, F, H0, ρ, δ, hS, R, o⟩ => ⟨Γ, F, H0, ρ, δ, hS, R, o.bind.imp fun ds δ1 H1 A1 o1 vs r1 => by
    obtain ⟨d, e, q⟩ := o1.opt
    obtain ⟨hl, rfl⟩ := line_of e
    have R1 := R.aft A1
    exact ⟨sz hl r1.length, fun p od hp hd nw => q _ (aft_nw hK hS (same_new hp) R1.dr R1.tab nw) _ (.tup (R1.fresh hp) (SqN.of upd_same hd) (r1.ext (same_ext (same_new hp) _)))⟩⟩
theorem f_lst (hK : X.K = S.K) (h : PA X es (rdA S C E r)) : PE X (.List es pos) (rdF S C E (dLst r)) :=
  (pe_lst h).by' fun σ H Q ⟨Γ, F, H0, ρ, δ, hS, R, o⟩ => ⟨Γ, F, H0, ρ, δ, hS, R, o.bind.imp fun ds δ1 H1 A1 o1 vs r1 => by
    obtain ⟨d, e, q⟩ := o1.opt
    obtain ⟨hl, rfl⟩ := line_of e
    have R1 := R.aft A1
    exact ⟨sz hl r1.length, fun p hp nw => q _ (aft_nw hK hS (same_new hp) R1.dr R1.tab nw) p (fr_back A1.ext A1.dr (fr_none hp)) (OwnN.own (d := .lst _) ⟨vs, upd_same, r1⟩ hp (same_new hp) (by rw [hK, ← hS] at nw; exact nw))⟩⟩
end
end SG

set_option Elab.async false
set_option linter.all false
set_option maxRecDepth 100000
set_option maxHeartbeats 4000000
namespace SG
open PySem PySem.Spec L2
open PyProof.Rows hiding St
open PySem.W (dataLe alike AllAlike Sortable EachIs SortsAt dataKind sortVals sortingHeap copyHeap)
/-! ### sorted of a tuple, at the library's level -/
section
variable {prog : Program} {w : World} {A : Around} {E : Value → Shared → Prop} {s : Shared}
theorem collect_tuple {l : Addr} {vs : List Value} {Q : List Value → Shared → Prop} (hl : s.heap.IsTuple l vs.toArray)
    (h : Q vs { s with heap := (s.heap.push (seqObj "list" #[] 0)).update s.heap.objs.size (Obj.mapSeq (· ++ vs.toArray)) }) (hsz : vs.length ≤ sizeLine) :
    wpAny (model prog w) A (collect (.ref l)) Q E s := by
  obtain ⟨o, ho, hc, n, hd⟩ := id hl
  unfold collect
  refine wpAny_bind (wpAny_runValue (codeAny_builtin entry_proto_collect' ?_))
  show wpAny _ _ (do again (.builtin "list.__iadd__" ⟨[← newList [], .ref l], []⟩)) _ _ s
  refine wpAny_bind (wpAny_newList (wpAny_pure ⟨Code.quiet_builtin _ (by decide +kernel), codeAny_builtin entry_list_iadd' ?_⟩))
  show wpAny _ _ (Builtin.List.listExtendWith (.ref s.heap.objs.size) (.ref l) (.ref s.heap.objs.size)) _ _ { s with heap := s.heap.push (seqObj "list" #[] 0) }
  unfold Builtin.List.listExtendWith
  have ho' : (s.heap.push (seqObj "list" #[] 0)).get? l = some o := Heap.get?_push_of_some _ ho
  refine wpAny_bind (wpAny_typeOf (T := "tuple") ⟨o, ho', hc⟩ ?_)
  have ht : (Value.type "tuple" == Value.type "tuple") = true := by rfl
  rw [if_pos (by rw [ht]; simp)]
  refine wpAny_bind (listItems_at ho' hd ?_)
  refine wpAny_bind (listItems_at (xs := #[]) (n := 0) (Heap.get?_push_size _ rfl) rfl ?_)
  rw [if_neg (by simp)]
  refine wpAny_bind (listUpdate_at (xs := #[]) (n := 0) (Heap.get?_push_size _ rfl) rfl ?_ (Nat.zero_le _) (by show (#[] ++ vs.toArray).size ≤ sizeLine + 1; simp only [Array.size_append, List.size_toArray, List.length_nil]; omega))
  refine wpAny_pure ?_
  show wpAny (model prog w) A (do
      let o ← load s.heap.objs.size
      match o.data with
      | .seq xs _ => pure xs.toList
      | _ => unsupported "internal:collect") Q E { s with heap := (s.heap.push (seqObj "list" #[] 0)).update s.heap.objs.size (Obj.mapSeq (· ++ vs.toArray)) }
  refine wpAny_bind (wpAny_load (get?_update_seq (Heap.get?_push_size _ rfl) _) ?_)
  show wpAny _ _ (pure ((#[] : Array Value) ++ vs.toArray).toList) Q E _
  rw [show ((#[] : Array Value) ++ vs.toArray).toList = vs by simp]
  exact wpAny_pure h
/-- what collect makes a new list of -/
def Cols (prog : Program) (w : World) (s : Shared) (l : Addr) (vs : List Value) : Prop := ∀ (A : Around) (E : Value → Shared → Prop) (Q : List Value → Shared → Prop),
  Q vs { s with heap := (s.heap.push (seqObj "list" #[] 0)).update s.heap.objs.size (Obj.mapSeq (· ++ vs.toArray)) } → wpAny (model prog w) A (collect (.ref l)) Q E s
theorem sorted_of_cols {l : Addr} {vs : List Value} {kw : List (Str × Value)} {Q : Value → Shared → Prop} (hl : Cols prog w s l vs) (hL : vs.length ≤ sizeLine) (ha1 : argsOk "sorted" ⟨[.ref l], kw⟩) (ha2 : ∀ x, argsOk "list.sort" ⟨[.ref x], kw⟩)
    (body : ∀ E' : Value → Shared → Prop, wpAny (model prog w) A.in1.in1 (Builtin.«list.sort» ⟨[.ref (s.heap.objs.size + 1)], kw⟩) (fun f s' => f = .done (.ret .none) ∧ Q (.ref (s.heap.objs.size + 1)) s') E' { s with heap := copyHeap s.heap vs }) :
    wpAny (model prog w) A (call (.builtin "sorted") [.ref l] kw) Q E s := by
  refine call_function_entry_kw kind_sorted plain_sorted entry_sorted ha1 ?_
  unfold Builtin.«sorted»
  refine wpAny_bind (m := checkCount "sorted" 1 1 _) (wpAny_pure ?_)
  refine wpAny_bind (hl _ _ _ ?_)
  refine wpAny_bind (wpAny_newList ?_ hL)
  have hsz : ((s.heap.push (seqObj "list" #[] 0)).update s.heap.objs.size (Obj.mapSeq (· ++ vs.toArray))).objs.size = s.heap.objs.size + 1 := by
    rw [Heap.size_update, size_push']
  show wpAny _ _ _ _ _ { s with heap := copyHeap s.heap vs }
  rw [hsz]
  refine wpAny_bind (wpAny_holding (wpAny_call_entry_kw slot_list_sort ⟨_, PySem.W.copyHeap_at s.heap vs, rfl⟩ entry_list_sort ?body (ha2 _)))
  case body =>
    show wpAny (model prog w) A.in1.in1 (Builtin.«list.sort» ⟨[.ref (s.heap.objs.size + 1)], kw⟩) _ _ _
    refine wpAny_mono (body _) (fun f s' hf => ?_) fun _ _ e => e
    obtain ⟨rfl, hq⟩ := hf
    exact ⟨_, rfl, wpAny_pure ⟨_, rfl, hq⟩⟩
theorem sorted_cols_data {β : Type} {vs : List Value} {bs : List β} {enc : β → PyData} {R : Value → β → Prop} {l : Addr} {Q : Value → Shared → Prop} (hl : Cols prog w s l vs) (e : EachIs R vs bs) (er : EachIs (fun v b => ∃ as, Reads s.heap v (enc b) as) vs bs) (hal : AllAlike (bs.map enc)) (hk : Sortable (bs.map enc)) (hL : bs.length ≤ sizeLine)
    (hu : ∀ b, b ∈ bs → A.units + 2 + (enc b).depth < cLine) (h : ∀ out, out.length = bs.length → EachIs R out (bs.mergeSort (dataLe false enc)) → Q (.ref (s.heap.objs.size + 1)) { s with heap := sortedAll s.heap vs (List.toArray out) }) :
    wpAny (model prog w) A (call (.builtin "sorted") [.ref l]) Q E s := by
  have er' : EachIs (fun v b => ∃ as, Reads (sortingHeap (copyHeap s.heap vs) (s.heap.objs.size + 1) vs) v (enc b) as) vs bs := er.mono fun _ _ ⟨as, r⟩ => ⟨as, PyProof.Rows.Reads.keeps (fun _ _ => PySem.W.sorting_copy_old) r⟩
  have hL' : vs.length ≤ sizeLine := by rw [e.length]; exact hL
  have S : SortsAt prog w A.in1.in1 { s with heap := sortingHeap (copyHeap s.heap vs) (s.heap.objs.size + 1) vs } (dataKind (sortingHeap (copyHeap s.heap vs) (s.heap.objs.size + 1) vs) (bs.map enc)) vs :=
    SortsAt.data (s := { s with heap := sortingHeap (copyHeap s.heap vs) (s.heap.objs.size + 1) vs }) (PySem.W.each_map (R := fun v d => ∃ as, Reads (sortingHeap (copyHeap s.heap vs) (s.heap.objs.size + 1) vs) v d as) enc er') hal hk (PySem.W.bound_map hu)
  exact sorted_of_cols hl hL' (PyProof.Rows.args_sorted1 _) (fun _ => args_list_sort _) fun _ => PySem.W.list_sort_vals (s := { s with heap := copyHeap s.heap vs }) (PySem.W.copyHeap_at s.heap vs) S hL'
    ⟨rfl, h _ (by rw [PySem.W.sortVals_length false rfl]; exact e.length) (PySem.W.sortVals_data false e er' hal)⟩
end
/-! ### by plain data -/
def alikes (xs : List D) : Bool := xs.all fun x => xs.all fun y => alike (toPy x) (toPy y)
def neTup : D → Bool
  | .tup (_ :: _) => true
  | _ => false
def noTup : D → Bool
  | .tup _ => false
  | .non => false
  | .bl _ => true | .int _ => true | .str _ => true | .lst _ => true
  | _ => false
def dle : D → D → Bool := dataLe false toPy
def sortOk (xs : List D) : Bool := alikes xs && (xs.all neTup || xs.all noTup) && pls DP xs && decide (xs.length ≤ LINE)
def sortD (xs : List D) : Option (List D) := if sortOk xs then some (xs.mergeSort dle) else none
theorem zip_each {Γ : Gm} {H : Hp} {O : Addr → Prop} : ∀ {ds : List D} {vs : List V} {us : List Value}, RelDs Γ H O ds vs → Vals vs us → EachIs (fun u (p : D × V) => RelV p.2 u) us (ds.zip vs)
  | _, _, _, .nil, .nil => .nil
  | _, _, _, .cons _ r, .cons q t => .cons q (zip_each r t)
theorem zip_rel {Γ : Gm} {H : Hp} {O : Addr → Prop} : ∀ {ds : List D} {vs : List V}, RelDs Γ H O ds vs → ∀ p ∈ ds.zip vs, RelD Γ H O p.1 p.2
  | _, _, .nil, _, h => by simp at h
  | _, _, .cons q r, p, h => by
    simp only [List.zip_cons_cons, List.mem_cons] at h
    rcases h with rfl | h
    · exact q
    · exact zip_rel r p h
theorem rel_zip {Γ : Gm} {H : Hp} {O : Addr → Prop} : ∀ {ps : List (D × V)}, (∀ p ∈ ps, RelD Γ H O p.1 p.2) → RelDs Γ H O (ps.map (·.1)) (ps.map (·.2))
  | [], _ => .nil
  | p :: ps, h => .cons (h p List.mem_cons_self) (rel_zip fun q hq => h q (List.mem_cons_of_mem _ hq))
theorem each_vals : ∀ {us : List Value} {ps : List (D × V)}, EachIs (fun u (p : D × V) => RelV p.2 u) us ps → Vals (ps.map (·.2)) us
  | _, _, .nil => .nil
  | _, _, .cons q t => .cons q (each_vals t)
theorem each_imp {α β : Type} {R R' : α → β → Prop} : ∀ {us : List α} {ps : List β}, EachIs R us ps → (∀ u p, p ∈ ps → R u p → R' u p) → EachIs R' us ps
  | _, _, .nil, _ => .nil
  | _, _, .cons q t, k => .cons (k _ _ List.mem_cons_self q) (each_imp t fun u p h => k u p (List.mem_cons_of_mem _ h))
theorem dataLe_map {α β : Type} (f : α → β) (k : β → PyData) (a b : α) : dataLe false (fun x => k (f x)) a b = dataLe false k (f a) (f b) := rfl
theorem fst_zip {α β : Type} : ∀ {xs : List α} {ys : List β}, xs.length = ys.length → (xs.zip ys).map (·.1) = xs
  | [], [], _ => rfl
  | x :: xs, y :: ys, h => by
    simp only [List.zip_cons_cons, List.map_cons]
    rw [fst_zip (by simpa using h)]
/-- sorted(x), x a list or a tuple: a new list -/
theorem sort_core {X : Cx} (hu : X.A.units + 120 < cLine) {pins : List (Addr × Obj)} {s : Shared} {σ : St} {H : Hp} {Q : VK} (I : Inv X pins σ H s) {Γ : Gm} {O : Addr → Prop} {ds out : List D} {vs : List V} {us : List Value} {l : Addr} (hK : Γ.K = X.K) (r : RelDs Γ H O ds vs) (rv : Vals vs us)
    (hc : Cols X.prog X.w s l us) (hs : sortD ds = some out) (q : ∀ p H', H p = none → Same H H' → OwnN Γ H H' O (.lst out) p → Q (.ref p) H') : wpAny (model X.prog X.w) X.A (call (.builtin "sorted") [.ref l]) (EP X pins σ Q) X.xe s := by
  unfold sortD at hs
  split at hs
  · rename_i hok
    cases hs
    unfold sortOk at hok
    simp only [Bool.and_eq_true, decide_eq_true_eq] at hok
    obtain ⟨⟨⟨hal, hso⟩, hpl⟩, hln⟩ := hok
    have hlen := r.length
    have hvl := rv.length
    have hz1 : (ds.zip vs).map (fun p => toPy p.1) = toPys ds := by
      rw [toPys_map, ← fst_zip hlen, List.map_map]
      rw [fst_zip hlen]; rfl
    have rel := zip_rel r
    refine sorted_cols_data (bs := ds.zip vs) (enc := fun p => toPy p.1) hc (zip_each r rv) (each_imp (zip_each r rv) fun u p hp hr => ?_) ?_ ?_ ?_ ?_ fun o1 h1 h2 => ?_
    · have hd : p.1 ∈ ds := by
        have := List.of_mem_zip (a := p.1) (b := p.2) hp
        exact this.1
      have hp1 : pl DP p.1 = true := by
        rw [pls_all, List.all_eq_true] at hpl
        exact hpl _ hd
      exact read_of I hK hp1 (rel p hp).p hr
    · rw [hz1, toPys_map]
      intro a ha b hb
      obtain ⟨x, hx, rfl⟩ := List.mem_map.mp ha
      obtain ⟨y, hy, rfl⟩ := List.mem_map.mp hb
      unfold alikes at hal
      rw [List.all_eq_true] at hal
      have := hal x hx
      rw [List.all_eq_true] at this
      exact this y hy
    · rw [hz1, toPys_map]
      rw [Bool.or_eq_true] at hso
      rcases hso with h | h
      · refine .inl fun d hd => ?_
        obtain ⟨x, hx, rfl⟩ := List.mem_map.mp hd
        rw [List.all_eq_true] at h
        have := h x hx
        cases x <;> simp only [neTup, Bool.false_eq_true] at this
        rename_i xs
        cases xs with
        | nil => simp [neTup] at this
        | cons y ys => exact ⟨toPy y, toPys ys, by simp only [toPy, toPys]⟩
      · refine .inr fun d hd => ?_
        obtain ⟨x, hx, rfl⟩ := List.mem_map.mp hd
        rw [List.all_eq_true] at h
        have := h x hx
        cases x <;> first | (simp only [noTup, Bool.false_eq_true] at this; done) | (simp only [toPy]; refine ⟨?_, ?_⟩ <;> (intros; simp))
    · rw [List.length_zip, ← hlen, Nat.min_self, ← LINE_eq]; exact hln
    · intro p hp
      have hd : p.1 ∈ ds := (List.of_mem_zip (a := p.1) (b := p.2) hp).1
      rw [pls_all, List.all_eq_true] at hpl
      have := (pl_plain _ _ (hpl _ hd)).2
      simp only [DP] at this
      omega
    · obtain ⟨ep, he'⟩ := PyProof.Rows.sortedAll_at s.heap us o1.toArray
      have rr : RelDs Γ H O (((ds.zip vs).mergeSort (dataLe false fun p => toPy p.1)).map (·.1)) (((ds.zip vs).mergeSort (dataLe false fun p => toPy p.1)).map (·.2)) := rel_zip fun p hp => rel p (List.mem_mergeSort.mp hp)
      have em : ((ds.zip vs).mergeSort (dataLe false fun p => toPy p.1)).map (·.1) = ds.mergeSort dle := by
        have := List.map_mergeSort (r := dataLe false fun p : D × V => toPy p.1) (s := dle) (f := fun p : D × V => p.1) (l := ds.zip vs) (fun a _ b _ => rfl)
        rw [this, fst_zip hlen]
      rw [em] at rr
      have vv := each_vals h2
      have hn : H (s.heap.objs.size + 1) = none := I.hok.fresh (Nat.le_succ _)
      refine ⟨.ref _, upd H (s.heap.objs.size + 1) (.lst (((ds.zip vs).mergeSort (dataLe false fun p => toPy p.1)).map (·.2))), I.laid (t' := s.toks) (fun _ _ => PyProof.Rows.sortedAll_old) (Nat.le_succ _) ⟨?_, o1, ep, vv, he'⟩, rfl, q _ _ hn (same_new hn) ⟨_, upd_same, rr⟩⟩
      rw [vv.length, h1, List.length_zip, ← hlen, Nat.min_self, ← LINE_eq]; exact hln
  · cases hs
end SG

set_option Elab.async false
set_option linter.all false
set_option maxRecDepth 100000
set_option maxHeartbeats 4000000
namespace SG
open PySem PySem.Spec L2
open PySem.W (dataLe alike AllAlike Sortable EachIs SortsAt dataKind sortVals sortingHeap copyHeap)
open PyProof.Rows hiding St
/-! ### a dict's keys in order; sorted of a dict -/
theorem relKD {Γ : Gm} {H : Hp} {O : Addr → Prop} (k : Key) : RelD Γ H O (kD k) (kV k) := by
  cases k
  · exact .int _
  · exact .str _
def keysD (kvs : List (D × D)) : List D := kvs.map (·.1)
theorem ksrc {Γ : Gm} {H : Hp} {O : Addr → Prop} {P : Program} {w : World} : ∀ {ds : List (D × D)} {kvs : List (Key × V)} {vs : List (Key × Value)} {es : List DictEntry}, RelKs Γ H O ds kvs → KV kvs vs → Pairs (mixKind P w) es vs →
    ∃ vv, RelDs Γ H O (keysD ds) vv ∧ Vals vv (es.map (·.key))
  | _, _, _, _, .nil, kv, ps => by
    cases kv; cases ps
    exact ⟨[], .nil, .nil⟩
  | _, _, _, _, .cons (k := k) h r, kv, ps => by
    cases kv with
    | cons q t =>
      cases ps with
      | cons p1 p2 p3 =>
        obtain ⟨vv, h1, h2⟩ := ksrc r t p3
        refine ⟨kV k :: vv, .cons (relKD k) h1, .cons (keyIs_rel ?_) h2⟩
        have q1 : k = _ := q.1
        rw [q1]; exact p1
theorem nsrc {Γ : Gm} {H : Hp} {O : Addr → Prop} {P : Program} {w : World} : ∀ {ds : List (D × D)} {ws : WN} {xs : List (NestedKey × Addr × Value)}, RelN Γ H O ds ws → EN ws xs →
    ∃ vv, RelDs Γ H O (keysD ds) vv ∧ Vals vv ((xs.map (entryOfKey (nestedKind P w))).map (·.key))
  | _, _, _, .nil, en => by
    cases en
    exact ⟨[], .nil, .nil⟩
  | _, _, _, .cons (b := b) e h q r, en => by
    cases en with
    | cons p t =>
      obtain ⟨vv, h1, h2⟩ := nsrc (P := P) (w := w) r t
      refine ⟨.ref b :: vv, .cons h h1, .cons ?_ h2⟩
      show Value.ref _ = Value.ref b
      rw [← p.2.1]
section
variable {X : Cx} {Γ : Gm} {H : Hp} {O : Addr → Prop} {σ : St} {pins : List (Addr × Obj)} {s : Shared}
structure DSrc (s : Shared) (Γ : Gm) (H : Hp) (O : Addr → Prop) (a : Addr) (ds : List D) (us : List Value) : Prop where
  ex : ∃ (o : Obj) (es : Array DictEntry) (ep : Nat) (vv : List V), (a == sysModules) = false ∧ s.heap.get? a = some o ∧ o.ExactDict ∧ o.data = .dict es ep ∧ es.toList.map (·.key) = us ∧ RelDs Γ H O ds vv ∧ Vals vv us ∧ us.length ≤ sizeLine
theorem dsrc_K (I : Inv X pins σ H s) {a : Addr} {ds : List (D × D)} {kvs : List (Key × V)} (e : Rd H a (.dK kvs)) (r : RelKs Γ H O ds kvs) : ∃ us, DSrc s Γ H O a (keysD ds) us := by
  obtain ⟨z, hs, vs, rv, o, es, ep, h1, h2, h3, h4, h5, h6⟩ := dk_rd I.hok e
  obtain ⟨vv, h7, h8⟩ := ksrc r rv h5
  refine ⟨_, ⟨o, es, ep, vv, hs, h1, h2, h3, rfl, h7, h8, ?_⟩⟩
  rw [List.length_map, h5.length, ← Paired.length rv]
  exact z
theorem dsrc_N (I : Inv X pins σ H s) (hK : Γ.K = X.K) {a : Addr} {ds : List (D × D)} {ws : WN} (e : H a = some (DNo a ws)) (r : RelN Γ H O ds ws) : ∃ us, DSrc s Γ H O a (keysD ds) us := by
  obtain ⟨z, hs, xs, en, o, es, ep, h1, h2, h3, h4, h5, h6⟩ := dn_at I hK e r
  obtain ⟨vv, h7, h8⟩ := nsrc (P := X.prog) (w := X.w) r en
  rw [← h4] at h8
  refine ⟨_, ⟨o, es, ep, vv, hs, h1, h2, h3, rfl, h7, h8, ?_⟩⟩
  rw [h4, List.length_map, List.length_map, ← en.length]
  exact z
theorem items_of {es : Array DictEntry} {acc : Array Value} {us : List Value} (e : es.toList.map (·.key) = us) (it : ItemsOf (fun i v => ∃ en : DictEntry, es[i]? = some en ∧ v = en.key) acc es.size) : acc.toList = us := by
  subst e
  apply List.ext_getElem?
  intro j
  rw [List.getElem?_map, Array.getElem?_toList, Array.getElem?_toList]
  cases hj : acc[j]? with
  | none =>
    have h1 := Array.getElem?_eq_none_iff.mp hj
    rw [Array.getElem?_eq_none (by rw [it.1] at h1; exact h1)]
    rfl
  | some v =>
    obtain ⟨en, hen, hv⟩ := it.2 j v hj
    rw [hen, hv]
    rfl
/-- what collect makes a new list of, laying other things beside -/
def Coll (prog : Program) (w : World) (s : Shared) (l : Addr) (us : List Value) : Prop := ∀ (A : Around) (E : Value → Shared → Prop) (Q : List Value → Shared → Prop), A.handled = none →
  (∀ h' tk, (∀ b o, s.heap.get? b = some o → h'.get? b = some o) → Q us { s with heap := h', toks := tk }) → wpAny (model prog w) A (collect (.ref l)) Q E s
theorem coll_of {a : Addr} {ds : List D} {us : List Value} (h : DSrc s Γ H O a ds us) : Coll X.prog X.w s a us := by
  obtain ⟨o, es, ep, vv, hs, h1, h2, h3, h4, h5, h6, h7⟩ := h.ex
  intro A E Q hh q
  have hz : es.size = us.length := by rw [← h4, List.length_map, Array.length_toList]
  refine PySem.W.kdu_collect (kdl_raw hs h2 h3) hh h1 (by rw [hz]; exact h7) fun h' tk acc hk it => ?_
  rw [items_of h4 it]
  exact q h' tk hk
theorem sorted_coll {prog : Program} {w : World} {A : Around} {E : Value → Shared → Prop} {s : Shared} {β : Type} {vs : List Value} {bs : List β} {enc : β → PyData} {R : Value → β → Prop} {l : Addr} {Q : Value → Shared → Prop} (hh : A.handled = none) (hl : Coll prog w s l vs) (e : EachIs R vs bs) (er : EachIs (fun v b => ∃ as, Reads s.heap v (enc b) as) vs bs) (hal : AllAlike (bs.map enc)) (hk : Sortable (bs.map enc)) (hL : bs.length ≤ sizeLine)
    (hu : ∀ b, b ∈ bs → A.units + 2 + (enc b).depth < cLine) (h : ∀ (h1 h' : Heap) (tk : Nat) (out : List Value) (ep : Nat), (∀ b o, s.heap.get? b = some o → h1.get? b = some o) → (∀ b o, h1.get? b = some o → h'.get? b = some o) → h'.get? h1.objs.size = some (seqObj "list" out.toArray ep) → out.length = bs.length → EachIs R out (bs.mergeSort (dataLe false enc)) → Q (.ref h1.objs.size) { s with heap := h', toks := tk }) :
    wpAny (model prog w) A (call (.builtin "sorted") [.ref l]) Q E s := by
  have hL' : vs.length ≤ sizeLine := by rw [e.length]; exact hL
  refine call_function_entry_kw kind_sorted plain_sorted entry_sorted (PyProof.Rows.args_sorted1 _) ?_
  unfold Builtin.«sorted»
  refine wpAny_bind (m := checkCount "sorted" 1 1 _) (wpAny_pure ?_)
  refine wpAny_bind (hl _ _ _ hh fun h1 tk hk1 => ?_)
  refine wpAny_bind (wpAny_newList ?_ hL')
  have hat : (h1.push { cls := .type "list", data := .seq vs.toArray }).get? h1.objs.size = some (seqObj "list" vs.toArray 0) := Heap.get?_push_size _ rfl
  have old : ∀ b o, s.heap.get? b = some o → (h1.push { cls := .type "list", data := .seq vs.toArray }).get? b = some o := fun b o q => Heap.get?_push_of_some _ (hk1 b o q)
  have ne : ∀ b o, s.heap.get? b = some o → b ≠ h1.objs.size := fun b o q => Nat.ne_of_lt (Heap.lt_size (hk1 b o q))
  have er' : EachIs (fun v b => ∃ as, Reads (sortingHeap (h1.push { cls := .type "list", data := .seq vs.toArray }) h1.objs.size vs) v (enc b) as) vs bs := er.mono fun _ _ ⟨as, r⟩ => ⟨as, PyProof.Rows.Reads.keeps (fun _ _ q => PySem.W.sortingHeap_old (ne _ _ q) (old _ _ q)) r⟩
  have S : SortsAt prog w A.in1.in1 { s with heap := sortingHeap (h1.push { cls := .type "list", data := .seq vs.toArray }) h1.objs.size vs, toks := tk } (dataKind (sortingHeap (h1.push { cls := .type "list", data := .seq vs.toArray }) h1.objs.size vs) (bs.map enc)) vs :=
    SortsAt.data (s := { s with heap := sortingHeap (h1.push { cls := .type "list", data := .seq vs.toArray }) h1.objs.size vs, toks := tk }) (PySem.W.each_map (R := fun v d => ∃ as, Reads (sortingHeap (h1.push { cls := .type "list", data := .seq vs.toArray }) h1.objs.size vs) v d as) enc er') hal hk (PySem.W.bound_map hu)
  refine wpAny_bind (wpAny_holding (wpAny_call_entry_kw slot_list_sort ⟨_, hat, rfl⟩ entry_list_sort ?body (args_list_sort _)))
  case body =>
    show wpAny (model prog w) A.in1.in1 (Builtin.«list.sort» ⟨[.ref h1.objs.size], []⟩) _ _ _
    refine PySem.W.list_sort_vals (s := { s with heap := h1.push { cls := .type "list", data := .seq vs.toArray }, toks := tk }) hat S hL' ⟨_, rfl, wpAny_pure ⟨_, rfl, ?_⟩⟩
    have hout := PySem.W.sortVals_length (κ := dataKind (sortingHeap (h1.push { cls := .type "list", data := .seq vs.toArray }) h1.objs.size vs) (bs.map enc)) false (vs := vs) rfl
    obtain ⟨ep, he⟩ := sortedHeap_at (vs := vs) (out := (sortVals (dataKind (sortingHeap (h1.push { cls := .type "list", data := .seq vs.toArray }) h1.objs.size vs) (bs.map enc)) false vs vs).toArray) hat
    refine h h1 _ tk _ ep hk1 (fun b o q => ?_) he (by rw [hout]; exact e.length) (PySem.W.sortVals_data false e er' hal)
    rw [sortedHeap_old (Nat.ne_of_lt (Heap.lt_size q)) (by rw [size_push']; exact Nat.lt_succ_of_lt (Heap.lt_size q))]
    exact Heap.get?_push_of_some _ q
/-- sorted(x), x a dict: a new list -/
theorem sort_coll (hcalm : X.calm = true) (hu : X.A.units + 120 < cLine) {Q : VK} (I : Inv X pins σ H s) {ds out : List D} {vs : List V} {us : List Value} {l : Addr} (hK : Γ.K = X.K) (r : RelDs Γ H O ds vs) (rv : Vals vs us)
    (hc : Coll X.prog X.w s l us) (hs : sortD ds = some out) (q : ∀ p H', H p = none → Same H H' → OwnN Γ H H' O (.lst out) p → Q (.ref p) H') : wpAny (model X.prog X.w) X.A (call (.builtin "sorted") [.ref l]) (EP X pins σ Q) X.xe s := by
  unfold sortD at hs
  split at hs
  · rename_i hok
    cases hs
    unfold sortOk at hok
    simp only [Bool.and_eq_true, decide_eq_true_eq] at hok
    obtain ⟨⟨⟨hal, hso⟩, hpl⟩, hln⟩ := hok
    have hlen := r.length
    have hvl := rv.length
    have hz1 : (ds.zip vs).map (fun p => toPy p.1) = toPys ds := by
      rw [toPys_map, ← fst_zip hlen, List.map_map]
      rw [fst_zip hlen]; rfl
    have rel := zip_rel r
    refine sorted_coll (I.ok.hd hcalm) hc (bs := ds.zip vs) (enc := fun p => toPy p.1) (zip_each r rv) (each_imp (zip_each r rv) fun u p hp hr => ?_) ?_ ?_ ?_ ?_ fun hp1 h' tk o1 ep k1 k2 he' h1 h2 => ?_
    · have hd : p.1 ∈ ds := by
        have := List.of_mem_zip (a := p.1) (b := p.2) hp
        exact this.1
      have hp1 : pl DP p.1 = true := by
        rw [pls_all, List.all_eq_true] at hpl
        exact hpl _ hd
      exact read_of I hK hp1 (rel p hp).p hr
    · rw [hz1, toPys_map]
      intro a ha b hb
      obtain ⟨x, hx, rfl⟩ := List.mem_map.mp ha
      obtain ⟨y, hy, rfl⟩ := List.mem_map.mp hb
      unfold alikes at hal
      rw [List.all_eq_true] at hal
      have := hal x hx
      rw [List.all_eq_true] at this
      exact this y hy
    · rw [hz1, toPys_map]
      rw [Bool.or_eq_true] at hso
      rcases hso with h | h
      · refine .inl fun d hd => ?_
        obtain ⟨x, hx, rfl⟩ := List.mem_map.mp hd
        rw [List.all_eq_true] at h
        have := h x hx
        cases x <;> simp only [neTup, Bool.false_eq_true] at this
        rename_i xs
        cases xs with
        | nil => simp [neTup] at this
        | cons y ys => exact ⟨toPy y, toPys ys, by simp only [toPy, toPys]⟩
      · refine .inr fun d hd => ?_
        obtain ⟨x, hx, rfl⟩ := List.mem_map.mp hd
        rw [List.all_eq_true] at h
        have := h x hx
        cases x <;> first | (simp only [noTup, Bool.false_eq_true] at this; done) | (simp only [toPy]; refine ⟨?_, ?_⟩ <;> (intros; simp))
    · rw [List.length_zip, ← hlen, Nat.min_self, ← LINE_eq]; exact hln
    · intro p hp
      have hd : p.1 ∈ ds := (List.of_mem_zip (a := p.1) (b := p.2) hp).1
      rw [pls_all, List.all_eq_true] at hpl
      have := (pl_plain _ _ (hpl _ hd)).2
      simp only [DP] at this
      omega
    · have rr : RelDs Γ H O (((ds.zip vs).mergeSort (dataLe false fun p => toPy p.1)).map (·.1)) (((ds.zip vs).mergeSort (dataLe false fun p => toPy p.1)).map (·.2)) := rel_zip fun p hp => rel p (List.mem_mergeSort.mp hp)
      have em : ((ds.zip vs).mergeSort (dataLe false fun p => toPy p.1)).map (·.1) = ds.mergeSort dle := by
        have := List.map_mergeSort (r := dataLe false fun p : D × V => toPy p.1) (s := dle) (f := fun p : D × V => p.1) (l := ds.zip vs) (fun a _ b _ => rfl)
        rw [this, fst_zip hlen]
      rw [em] at rr
      have vv := each_vals h2
      have I1 : Inv X pins σ H { s with heap := hp1, toks := tk } := I.kept k1
      have hn : H hp1.objs.size = none := I1.hok.fresh (Nat.le_refl _)
      refine ⟨.ref _, upd H hp1.objs.size (.lst (((ds.zip vs).mergeSort (dataLe false fun p => toPy p.1)).map (·.2))), I1.laid (t' := tk) k2 (Nat.le_refl _) ⟨?_, o1, ep, vv, he'⟩, rfl, q _ _ hn (same_new hn) ⟨_, upd_same, rr⟩⟩
      rw [vv.length, h1, List.length_zip, ← hlen, Nat.min_self, ← LINE_eq]; exact hln
  · cases hs
end
end SG

set_option Elab.async false
set_option linter.all false
set_option maxRecDepth 100000
set_option maxHeartbeats 4000000
namespace SG
open PySem PySem.Spec L2
open PyProof.Rows hiding St
/-! ### subscripts -/
theorem ixR_dict {X : Cx} (hu : X.A.units + 120 < cLine) : IxR X (fun x y H Q => ∃ a v, x = .ref a ∧ DGet H a y (some v) ∧ Q v H) := by
  intro value slice pins s σ H x y v u Q I rx ry ⟨a, w, ex, g, q⟩ hs
  subst ex
  obtain rfl : v = Value.ref a := rx
  exact tail_any (dict_typeIs I g) PySem.F.slot_dict_getitem.lookup (d_getItem (by omega) I g ry fun w' s' I' rw' => ⟨w, H, I', rw', q⟩) hs
theorem atI_rel {Γ : Gm} {H : Hp} {O : Addr → Prop} {ds : List D} {vs : List V} {i : Int} {d : D} (r : RelDs Γ H O ds vs) (h : atI ds i = some d) : ∃ v, atI vs i = some v ∧ RelD Γ H O d v := by
  unfold atI at h ⊢
  rw [← r.length]
  cases q : ixN ds.length i with
  | none => rw [q] at h; cases h
  | some j =>
    rw [q] at h
    exact r.get h
def rIxD (K : PySem.W.Frag) : R2 := r2 K ixSem
theorem ix_D {X : Cx} (hu : X.A.units + 120 < cLine) : IxR X (r2 X.K ixSem) := by
  intro value slice pins s σ H x y v u Q I rx ry ⟨Γ, O, d, e, r, hK, ok, px, py, hs, q⟩ hsl
  cases d <;> cases e <;> simp only [ixSem, reduceCtorEq] at hs
  case tup.int ds i =>
    obtain ⟨a, vs, ex, n, hp, rp⟩ := px.tup
    rw [hK] at hp
    obtain ⟨w, hw, rw'⟩ := atI_rel rp hs
    exact ix_tup value slice pins s σ H x y v u Q I rx ry ⟨a, vs, i, w, ex, py.int, hp.t, hw, q _ _ (Same.refl H) rw'⟩ hsl
  case lst.int ds i =>
    obtain ⟨a, vs, ex, n, hp, rp⟩ := px.lst ok.d
    obtain ⟨w, hw, rw'⟩ := atI_rel rp hs
    exact ix_list value slice pins s σ H x y v u Q I rx ry ⟨a, vs, i, w, ex, py.int, SqL.of hp, hw, q _ _ (Same.refl H) rw'⟩ hsl
  case str.int z i =>
    split at hs
    · rename_i hl
      cases hc : atI z.cps.toList i with
      | none => rw [hc] at hs; cases hs
      | some c =>
        rw [hc] at hs
        cases hs
        exact ix_str value slice pins s σ H x y v u Q I rx ry ⟨z, i, c, px.str, py.int, by rw [← LINE_eq]; exact hl, hc, q _ _ (Same.refl H) (.str _)⟩ hsl
    · cases hs
  case dcn.tup kvs ks =>
    obtain ⟨κ, hk, hs⟩ := Option.bind_eq_some_iff.mp hs
    obtain ⟨a, ws, rfl, _, hr, rk⟩ := px.dcn ok.d
    obtain ⟨b, rfl, rd⟩ := nkey_ref hk py
    cases (show v = Value.ref a from rx)
    cases (show u = Value.ref b from ry)
    obtain ⟨z, hsy, xs, en, hm⟩ := dn_at I hK hr rk
    have hroom : (nestedKind X.prog X.w).room X.A.in1 := show X.A.units + 1 + 8 < cLine by omega
    have hk' := nkey_is I hK hk rd
    rcases rk.look κ en with ⟨h1, h2⟩ | ⟨d', v', u', b', h1, h2, h3, h4⟩
    · rw [h1] at hs; cases hs
    · rw [h1] at hs
      cases hs
      exact tail_any hm.typeIs PySem.F.slot_dict_getitem.lookup (getItem_keyed (knd := nestedKind X.prog X.w) hroom hk' ⟨xs, hm, rfl⟩ (by rw [valueAt_pairsH, h2]; rfl) ⟨v', H, I.tok _, h3, q _ _ (Same.refl H) h4⟩) hsl
  all_goals try (simp only [nkey, Option.bind_none, reduceCtorEq] at hs; done)
  all_goals
    split at hs
    · rename_i hk
      obtain ⟨k, hk⟩ := Option.isSome_iff_exists.mp hk
      obtain ⟨a, ks, ex, _, hr, rk⟩ := px.dct ok.d
      have ey := py.key hk
      rw [kD_key hk] at hs
      rcases rk.look k with ⟨h1, h2⟩ | ⟨d', v', h1, h2, rr⟩
      · rw [h1] at hs; cases hs
      · rw [h1] at hs
        cases hs
        exact ixR_dict hu value slice pins s σ H x y v u Q I rx ry ⟨a, v', ex, .inl ⟨ks, k, hr, ey, h2.symm⟩, q _ _ (Same.refl H) rr⟩ hsl
    · cases hs
section
variable {S : Sta} {C : Ctx} {E : XK} {X : Cx} {e a b c : Expr} {t ta tb tc : DE} {u ua ub : DT} {pos : Pos}
theorem e_ix (hK : X.K = S.K) (hu : X.A.units + 120 < cLine) (ha : PE X a (rdP S C E ta)) (hb : PE X b (rdP S C E tb)) (hs : PlainIx b) : PE X (.Subscript a b pos) (rdE S C E (dIx ta tb)) :=
  (pe_ix (ix_D hu) ha hb hs).by' fun σ H Q ⟨Γ, F, H0, ρ, δ, hS, R, o⟩ => ⟨Γ, F, H0, ρ, δ, hS, R, o.bind.imp fun d1 δ1 H1 A1 o1 x r1 => ⟨Γ, F, H0, ρ, δ1, hS, R.aft A1, o1.bind.imp fun d2 δ2 H2 A2 o2 y r2 => by
    obtain ⟨r, e, q⟩ := o2.opt
    have R2 := (R.aft A1).aft A2
    exact ⟨Γ, _, d1, d2, r, by rw [hK, ← hS], R2.ok', r1.mvA A2 R.dO, r2, e, fun v H' sm rv nw => q H' (aft_nw hK hS sm R2.dr R2.tab nw) v rv⟩⟩⟩
end
/-! ### slices -/
abbrev DO := Ctx → Sls → M (Option Int)
def dNone : DO := fun _ _ => M.pure none
def isInt : D → Option Int
  | .int i => some i
  | _ => none
def dSome (a : DE) : DO := fun C ρ => do
  let x ← a C ρ
  let i ← M.opt (isInt x)
  M.pure (some i)
def dSl (a : DE) (lo hi : DO) : DE := fun C ρ => do
  let x ← a C ρ
  let l ← lo C ρ
  let h ← hi C ρ
  M.opt (slSem x l h)
def rdO (S : Sta) (C : Ctx) (E : XK) (t : DO) : TO := fun σ H Q => ∃ (Γ : Gm) (F : Addr → Prop) (H0 : Hp) (ρ : Sls) (δ : Dr), Γ.toSta = S ∧ Rel Γ F H0 ρ δ σ H ∧
  OutG Γ H E (fun o _ H' => Q o H') (t C ρ δ)
theorem PO.mono {X : Cx} {e : Option Expr} {t t' : TO} (h : PO X e t) (k : ∀ σ H Q, t' σ H Q → t σ H Q) : PO X e t' := ⟨fun pins s σ H Q I q => h.run pins s σ H Q I (k σ H Q q)⟩
theorem cutV_eq (xs : List V) (lo hi : Option Int) : cutV xs lo hi = (xs.drop (HT.sIx xs.length 0 lo)).take (HT.sIx xs.length xs.length hi - HT.sIx xs.length 0 lo) := rfl
theorem cut_rel {Γ : Gm} {H : Hp} {O : Addr → Prop} {ds : List D} {vs : List V} (r : RelDs Γ H O ds vs) (lo hi : Option Int) : RelDs Γ H O (cutD ds lo hi) (cutV vs lo hi) := by
  unfold cutD cutV
  rw [r.length]
  exact (r.drop _).take _
theorem cut_whole {α : Type} {ds : List α} {lo hi : Option Int} (h : HT.sIx ds.length 0 lo = 0 ∧ HT.sIx ds.length ds.length hi = ds.length) : (ds.drop (HT.sIx ds.length 0 lo)).take (HT.sIx ds.length ds.length hi - HT.sIx ds.length 0 lo) = ds := by
  rw [h.1, h.2]; simp
def rS (K : PySem.W.Frag) : V → Option Int → Option Int → Hp → VK → Prop := fun x lo hi H Q => ∃ (Γ : Gm) (O : Addr → Prop) (d r : D), Γ.K = K ∧ OK' Γ H O ∧ RelP Γ H O d x ∧ slSem d lo hi = some r ∧ ∀ v H', Same H H' → RelD Γ H' O r v → Q v H'
theorem sl_D {X : Cx} : SlR X (rS X.K) := by
  intro pins s σ H x v vl vu lo hi sl Q I rx h1 h2 h3 ⟨Γ, O, d, r, hK, ok, px, hs, q⟩
  cases d <;> simp only [slSem, reduceCtorEq] at hs
  case tup ds =>
    cases hs
    obtain ⟨a, vs, ex, n, hp, rp⟩ := px.tup
    have hp' := hp
    rw [hK] at hp
    refine sl_tupN pins s σ H x v vl vu lo hi sl Q I rx h1 h2 h3 ⟨a, vs, ex, hp.t, fun hw => ?_, fun hw p od hn hd => ?_⟩
    · refine q _ H (Same.refl H) ?_
      have : cutD ds lo hi = ds := cut_whole (by rw [rp.length]; exact hw)
      rw [this]
      exact .tup n hp' rp
    · exact q _ _ (same_new hn) (.tup (ok.fresh hn) (SqN.of upd_same hd) ((cut_rel rp lo hi).ext (same_ext (same_new hn) _)))
  case lst ds =>
    cases hs
    obtain ⟨a, vs, ex, n, hp, rp⟩ := px.lst ok.d
    refine sl_list pins s σ H x v vl vu lo hi sl Q I rx h1 h2 h3 ⟨a, vs, ex, SqL.of hp, fun p hn => ?_⟩
    exact q _ _ (same_new hn) (.lst (ok.fresh hn) upd_same ((cut_rel rp lo hi).ext (same_ext (same_new hn) _)))
section
variable {S : Sta} {C : Ctx} {E : XK} {X : Cx} {e a b c : Expr} {t ta tb tc : DE} {lo hi : Option Expr} {l h : DO} {pos p2 : Pos}
theorem o_none : PO X none (rdO S C E dNone) := PO.mono po_none fun σ H Q ⟨Γ, F, H0, ρ, δ, hS, R, o⟩ => o.pure H R.refl
theorem o_some (ha : PE X e (rdE S C E t)) : PO X (some e) (rdO S C E (dSome t)) := PO.mono (po_some ha) fun σ H Q ⟨Γ, F, H0, ρ, δ, hS, R, o⟩ => ⟨Γ, F, H0, ρ, δ, hS, R, o.bind.imp fun d δ1 H1 A1 o1 v r => by
  obtain ⟨i, ei, q⟩ := o1.bind.opt
  cases d <;> simp only [isInt, reduceCtorEq, Option.some.injEq] at ei
  subst ei
  exact ⟨_, r.i_int, (q H1 (R.aft A1).refl).pure H1 (R.aft A1).refl⟩⟩
theorem e_slice (hK : X.K = S.K) (ha : PE X a (rdP S C E ta)) (hl : PO X lo (rdO S C E l)) (hh : PO X hi (rdO S C E h)) : PE X (.Subscript a (.Slice lo hi none p2) pos) (rdE S C E (dSl ta l h)) :=
  (pe_slice sl_D ha hl hh).by' fun σ H Q ⟨Γ, F, H0, ρ, δ, hS, R, o⟩ => ⟨Γ, F, H0, ρ, δ, hS, R, o.bind.imp fun d1 δ1 H1 A1 o1 x r1 => ⟨Γ, F, H0, ρ, δ1, hS, R.aft A1, o1.bind.imp fun d2 δ2 H2 A2 o2 => ⟨Γ, F, H0, ρ, δ2, hS, (R.aft A1).aft A2, o2.bind.imp fun d3 δ3 H3 A3 o3 => by
    obtain ⟨r, e, q⟩ := o3.opt
    have R3 := ((R.aft A1).aft A2).aft A3
    exact ⟨Γ, _, d1, r, by rw [hK, ← hS], R3.ok', (r1.mvA A2 R.dO).mvA A3 R.dO, e, fun v H' sm rv nw => q H' (aft_nw hK hS sm R3.dr R3.tab nw) v rv⟩⟩⟩⟩
end
/-! ### pure built-ins -/
def dFun1 (g : D → Option D) (a : DE) : DE := fun C ρ => do
  let x ← a C ρ
  M.opt (g x)
def dFun2 (g : D → D → Option D) (a b : DE) : DE := fun C ρ => do
  let x ← a C ρ
  let y ← b C ρ
  M.opt (g x y)
def r1 (K : PySem.W.Frag) (sem : D → Option D) : List V → Hp → VK → Prop := fun xs H Q => ∃ (x : V) (Γ : Gm) (O : Addr → Prop) (d r : D), xs = [x] ∧ Γ.K = K ∧ OK' Γ H O ∧ RelP Γ H O d x ∧ sem d = some r ∧ ∀ v H', Same H H' → RelD Γ H' O r v → Q v H'
def r1F (K : PySem.W.Frag) (sem : D → Option D) : List V → Hp → VK → Prop := fun xs H Q => ∃ (x : V) (Γ : Gm) (O : Addr → Prop) (d r : D), xs = [x] ∧ Γ.K = K ∧ OK' Γ H O ∧ RelP Γ H O d x ∧ sem d = some r ∧ ∀ p H', H p = none → Same H H' → OwnN Γ H H' O r p → Q (.ref p) H'
def rC2 (K : PySem.W.Frag) (sem : D → D → Option D) : List V → Hp → VK → Prop := fun xs H Q => ∃ (x y : V) (Γ : Gm) (O : Addr → Prop) (d e r : D), xs = [x, y] ∧ Γ.K = K ∧ OK' Γ H O ∧ RelP Γ H O d x ∧ RelP Γ H O e y ∧ sem d e = some r ∧ ∀ v H', Same H H' → RelD Γ H' O r v → Q v H'
section
variable {S : Sta} {C : Ctx} {E : XK} {X : Cx} {e a b c call : Expr} {t ta tb tc : DE} {sem : D → Option D} {sem2 : D → D → Option D} {pos : Pos}
theorem e_fun1 (hK : X.K = S.K) (h : PE X call (tCB (r1 X.K sem) (tCons (rdP S C E t) tNil))) : PE X call (rdE S C E (dFun1 sem t)) :=
  h.by' fun σ H Q ⟨Γ, F, H0, ρ, δ, hS, R, o⟩ => ⟨Γ, F, H0, ρ, δ, hS, R, o.bind.imp fun d1 δ1 H1 A1 o1 x q1 => by
    obtain ⟨r, e, q⟩ := o1.opt
    have R1 := R.aft A1
    exact ⟨x, Γ, _, d1, r, rfl, by rw [hK, ← hS], R1.ok', q1, e, fun v H' sm rv nw => q H' (aft_nw hK hS sm R1.dr R1.tab nw) v rv⟩⟩
theorem f_fun1 (hK : X.K = S.K) (h : PE X call (tCB (r1F X.K sem) (tCons (rdP S C E t) tNil))) : PE X call (rdF S C E (dFun1 sem t)) :=
  h.by' fun σ H Q ⟨Γ, F, H0, ρ, δ, hS, R, o⟩ => ⟨Γ, F, H0, ρ, δ, hS, R, o.bind.imp fun d1 δ1 H1 A1 o1 x q1 => by
    obtain ⟨r, e, q⟩ := o1.opt
    have R1 := R.aft A1
    exact ⟨x, Γ, _, d1, r, rfl, by rw [hK, ← hS], R1.ok', q1, e, fun p H' hn sm rv nw => q H' (aft_nw hK hS sm R1.dr R1.tab nw) p (fr_back A1.ext A1.dr (fr_none hn)) (rv.own hn sm (by rw [hK, ← hS] at nw; exact nw))⟩⟩
theorem e_fun2 (hK : X.K = S.K) (h : PE X call (tCB (rC2 X.K sem2) (tCons (rdP S C E ta) (tCons (rdP S C E tb) tNil)))) : PE X call (rdE S C E (dFun2 sem2 ta tb)) :=
  h.by' fun σ H Q ⟨Γ, F, H0, ρ, δ, hS, R, o⟩ => ⟨Γ, F, H0, ρ, δ, hS, R, o.bind.imp fun d1 δ1 H1 A1 o1 x q1 => ⟨Γ, F, H0, ρ, δ1, hS, R.aft A1, o1.bind.imp fun d2 δ2 H2 A2 o2 y q2 => by
    obtain ⟨r, e, q⟩ := o2.opt
    have R2 := (R.aft A1).aft A2
    exact ⟨x, y, Γ, _, d1, d2, r, rfl, by rw [hK, ← hS], R2.ok', q1.mvA A2 R.dO, q2, e, fun v H' sm rv nw => q H' (aft_nw hK hS sm R2.dr R2.tab nw) v rv⟩⟩⟩
end
def sLen : D → Option D
  | .tup xs => some (.int xs.length)
  | .lst xs => some (.int xs.length)
  | .dct xs => some (.int xs.length)
  | .dcn xs => some (.int xs.length)
  | .scr xs => some (.int xs.length)
  | .str z => if z.length ≤ LINE then some (.int z.length) else none
  | _ => none
def sAbs : D → Option D
  | .int i => some (.int (if i < 0 then -i else i))
  | _ => none
def sInt : D → Option D
  | .int i => some (.int i)
  | .bl k => some (.int (if k then 1 else 0))
  | _ => none
def bls : List D → Option (List Bool)
  | [] => some []
  | .bl b :: r => (bls r).map (b :: ·)
  | _ :: _ => none
def intsD : List D → Option (List Int)
  | [] => some []
  | .int b :: r => (intsD r).map (b :: ·)
  | _ :: _ => none
def sAll : D → Option D
  | .lst xs => (bls xs).map fun bs => .bl (bs.all id)
  | _ => none
def sAny : D → Option D
  | .lst xs => (bls xs).map fun bs => .bl (bs.any id)
  | _ => none
def sSum : D → Option D
  | .lst xs => (intsD xs).map fun ns => .int ns.sum
  | .tup xs => (intsD xs).map fun ns => .int ns.sum
  | _ => none
def sTuple : D → Option D
  | .lst xs => some (.tup xs)
  | .tup xs => some (.tup xs)
  | _ => none
def sList : D → Option D
  | .dct kvs => some (.lst (keysD kvs))
  | .dcn kvs => some (.lst (keysD kvs))
  | .lst xs => some (.lst xs)
  | .tup xs => some (.lst xs)
  | _ => none
def sSorted : D → Option D
  | .dct kvs => (sortD (keysD kvs)).map .lst
  | .dcn kvs => (sortD (keysD kvs)).map .lst
  | .lst xs => (sortD xs).map .lst
  | .tup xs => (sortD xs).map .lst
  | _ => none
def dlt (a b : D) : Bool := PySem.W.dataLt (toPy a) (toPy b)
def minDD (x : D) (xs : List D) : D := xs.foldl (fun a y => if dlt y a then y else a) x
def maxDD (x : D) (xs : List D) : D := xs.foldl (fun a y => if dlt a y then y else a) x
def ordOk (xs : List D) : Bool := alikes xs && xs.all (fun d => !isNon d) && pls DP xs
def sMin : D → Option D
  | .lst (x :: xs) => if ordOk (x :: xs) then some (minDD x xs) else none
  | _ => none
def sMax : D → Option D
  | .lst (x :: xs) => if ordOk (x :: xs) then some (maxDD x xs) else none
  | _ => none
def sMin2 : D → D → Option D
  | .int i, .int j => some (.int (if j < i then j else i))
  | _, _ => none
def sMax2 : D → D → Option D
  | .int i, .int j => some (.int (if j > i then j else i))
  | _, _ => none
def sGcd : D → D → Option D
  | .int i, .int j => some (.int (Nat.gcd i.natAbs j.natAbs : Nat))
  | _, _ => none
theorem bls_rel {Γ : Gm} {H : Hp} {O : Addr → Prop} : ∀ {ds : List D} {vs : List V} {bs : List Bool}, RelDs Γ H O ds vs → bls ds = some bs → vs = bs.map V.bl
  | _, _, _, .nil, h => by cases h; rfl
  | d :: ds, _, bs, .cons q r, h => by
    cases d <;> simp only [bls, reduceCtorEq] at h
    rename_i b
    cases e : bls ds with
    | none => rw [e] at h; cases h
    | some bs' =>
      rw [e] at h
      cases h
      rw [bls_rel r e, q.i_bl]; rfl
theorem ints_rel {Γ : Gm} {H : Hp} {O : Addr → Prop} : ∀ {ds : List D} {vs : List V} {bs : List Int}, RelDs Γ H O ds vs → intsD ds = some bs → vs = bs.map V.int
  | _, _, _, .nil, h => by cases h; rfl
  | d :: ds, _, bs, .cons q r, h => by
    cases d <;> simp only [intsD, reduceCtorEq] at h
    rename_i b
    cases e : intsD ds with
    | none => rw [e] at h; cases h
    | some bs' =>
      rw [e] at h
      cases h
      rw [ints_rel r e, q.i_int]; rfl
section
variable {X : Cx}
theorem map_some {α β : Type} {o : Option α} {f : α → β} {b : β} (h : o.map f = some b) : ∃ a, o = some a ∧ b = f a := by
  cases o with
  | none => cases h
  | some a => cases h; exact ⟨a, rfl, rfl⟩
theorem b_len : CallR X (.builtin "len") (r1 X.K sLen) := by
  intro pins s σ H xs us Q I r hh
  obtain ⟨x, Γ, O, d, res, rfl, hK, ok, px, hs, q⟩ := hh
  cases d <;> simp only [sLen, reduceCtorEq] at hs
  case tup ds =>
    cases hs
    obtain ⟨a, vs, rfl, n, hp, rp⟩ := px.tup
    rw [hK] at hp
    exact call_len pins s σ H _ us Q I r ⟨_, _, rfl, .inr ⟨vs, hp.t, rp.length⟩, q _ H (Same.refl H) (.int _)⟩
  case lst ds =>
    cases hs
    obtain ⟨a, vs, rfl, n, hp, rp⟩ := px.lst ok.d
    exact call_len pins s σ H _ us Q I r ⟨_, _, rfl, .inl ⟨vs, SqL.of hp, rp.length⟩, q _ H (Same.refl H) (.int _)⟩
  case dct ds =>
    cases hs
    obtain ⟨a, ks, rfl, n, hp, rp⟩ := px.dct ok.d
    obtain ⟨u, rfl, ru⟩ := vals1 r
    obtain rfl : u = Value.ref a := ru
    exact d_len I hp fun t s' I' => ⟨.int _, H, I', ⟨t, rfl⟩, by rw [← rp.length]; exact q _ H (Same.refl H) (.int _)⟩
  case dcn ds =>
    cases hs
    obtain ⟨a, ws, rfl, n, hp, rp⟩ := px.dcn ok.d
    obtain ⟨u, rfl, ru⟩ := vals1 r
    obtain rfl : u = Value.ref a := ru
    obtain ⟨z, hsy, xs, en, hm⟩ := dn_at I hK hp rp
    have hl : (pairsH xs).length = ds.length := by rw [pairsH_length, ← en.length, rp.length]
    refine PyProof.Rows.call_len_slot (n := (pairsH xs).length) hm.typeIs F.slot_dict_len (fun Q' hq => len_keyed (knd := nestedKind X.prog X.w) hsy ⟨xs, hm, rfl⟩ hq) (by omega) (by rw [sizeLine_eq] at z; rw [hl, rp.length]; omega) ?_
    rw [hl]
    exact ⟨.int _, H, I.tok _, ⟨_, rfl⟩, q _ H (Same.refl H) (.int _)⟩
  case scr ns =>
    cases hs
    rcases px with px | ⟨_, _, _, h⟩
    · cases px with
      | scr n hp =>
        rw [hK] at hp
        exact call_len pins s σ H _ us Q I r ⟨_, _, rfl, .inl ⟨_, hp, (List.length_map (f := V.int)).symm⟩, q _ H (Same.refl H) (.int _)⟩
    · exact h.elim
  case str z =>
    split at hs
    · rename_i hl
      cases hs
      rw [px.str] at r
      exact call_len_str pins s σ H _ us Q I r ⟨z, rfl, by rw [← LINE_eq]; exact hl, q _ H (Same.refl H) (.int _)⟩
    · cases hs
theorem b_abs : CallR X (.builtin "abs") (r1 X.K sAbs) := by
  intro pins s σ H xs us Q I r hh
  obtain ⟨x, Γ, O, d, res, rfl, hK, ok, px, hs, q⟩ := hh
  cases d <;> simp only [sAbs, reduceCtorEq] at hs
  cases hs
  rw [px.int] at r
  exact call_abs pins s σ H _ us Q I r ⟨_, rfl, q _ H (Same.refl H) (.int _)⟩
theorem b_int : CallR X (.type "int") (r1 X.K sInt) := by
  intro pins s σ H xs us Q I r hh
  obtain ⟨x, Γ, O, d, res, rfl, hK, ok, px, hs, q⟩ := hh
  cases d <;> simp only [sInt, reduceCtorEq] at hs
  · cases hs
    rw [px.bl] at r
    exact call_int1 pins s σ H _ us Q I r (.inr ⟨_, rfl, q _ H (Same.refl H) (.int _)⟩)
  · cases hs
    rw [px.int] at r
    exact call_int1 pins s σ H _ us Q I r (.inl ⟨_, rfl, q _ H (Same.refl H) (.int _)⟩)
theorem b_all (hc : X.calm = true) : CallR X (.builtin "all") (r1 X.K sAll) := by
  intro pins s σ H xs us Q I r hh
  obtain ⟨x, Γ, O, d, res, rfl, hK, ok, px, hs, q⟩ := hh
  cases d <;> simp only [sAll, reduceCtorEq] at hs
  obtain ⟨bs, e, rfl⟩ := map_some hs
  obtain ⟨a, vs, rfl, n, hp, rp⟩ := px.lst ok.d
  rw [bls_rel rp e] at hp
  exact cr_all hc pins s σ H _ us Q I r ⟨a, bs, rfl, SqL.of hp, q _ H (Same.refl H) (.bl _)⟩
theorem b_any (hc : X.calm = true) : CallR X (.builtin "any") (r1 X.K sAny) := by
  intro pins s σ H xs us Q I r hh
  obtain ⟨x, Γ, O, d, res, rfl, hK, ok, px, hs, q⟩ := hh
  cases d <;> simp only [sAny, reduceCtorEq] at hs
  obtain ⟨bs, e, rfl⟩ := map_some hs
  obtain ⟨a, vs, rfl, n, hp, rp⟩ := px.lst ok.d
  rw [bls_rel rp e] at hp
  exact cr_any hc pins s σ H _ us Q I r ⟨a, bs, rfl, SqL.of hp, q _ H (Same.refl H) (.bl _)⟩
theorem b_sum (hc : X.calm = true) : CallR X (.builtin "sum") (r1 X.K sSum) := by
  intro pins s σ H xs us Q I r hh
  obtain ⟨x, Γ, O, d, res, rfl, hK, ok, px, hs, q⟩ := hh
  cases d <;> simp only [sSum, reduceCtorEq] at hs
  case lst ds =>
    obtain ⟨bs, e, rfl⟩ := map_some hs
    obtain ⟨a, vs, rfl, n, hp, rp⟩ := px.lst ok.d
    rw [ints_rel rp e] at hp
    exact cr_sum hc pins s σ H _ us Q I r ⟨a, bs, rfl, SqL.of hp, q _ H (Same.refl H) (.int _)⟩
  case tup ds =>
    obtain ⟨ns, e, rfl⟩ := map_some hs
    obtain ⟨a, vs, rfl, n, hp, rp⟩ := px.tup
    rw [ints_rel rp e, hK] at hp
    obtain ⟨its, rv, ht, hz⟩ := I.tuple hp.t
    rw [Vals.ref1 r]
    have hi := rv.ints
    obtain ⟨ys, hx⟩ := hi.allInts.items
    have hn : PySem.numsOf its.toArray.toList = ns := by rw [show its.toArray.toList = its from rfl, hi.numsOf]
    rw [hx] at ht hn
    rw [PySem.nums_intItems] at hn
    refine PySem.W.ktm_sumG (I.ok.hd hc) ht fun h' tk t' hk => ?_
    rw [PySem.preSum_eq, List.take_of_length_le (by simp), hn]
    exact ⟨.int _, H, I.kept hk, ⟨_, rfl⟩, q _ H (Same.refl H) (.int _)⟩
theorem b_tuple : CallR X (.type "tuple") (r1 X.K sTuple) := by
  intro pins s σ H xs us Q I r hh
  obtain ⟨x, Γ, O, d, res, rfl, hK, ok, px, hs, q⟩ := hh
  cases d <;> simp only [sTuple, reduceCtorEq] at hs
  · cases hs
    obtain ⟨a, vs, rfl, n, hp, rp⟩ := px.tup
    have hp' := hp
    rw [hK] at hp
    exact call_tupleN pins s σ H _ us Q I r ⟨a, vs, rfl, .inr ⟨hp.t, q _ H (Same.refl H) (.tup n hp' rp)⟩⟩
  · cases hs
    obtain ⟨a, vs, rfl, n, hp, rp⟩ := px.lst ok.d
    exact call_tupleN pins s σ H _ us Q I r ⟨a, vs, rfl, .inl ⟨SqL.of hp, fun l od hl hd => q _ _ (same_new hl) (.tup (ok.fresh hl) (SqN.of upd_same hd) (rp.ext (same_ext (same_new hl) _)))⟩⟩
theorem list_dict (hc : X.calm = true) {pins : List (Addr × Obj)} {s : Shared} {σ : St} {H : Hp} {Q : VK} (I : Inv X pins σ H s) {Γ : Gm} {O : Addr → Prop} {a : Addr} {ds : List D} {us : List Value} (h : DSrc s Γ H O a ds us)
    (q : ∀ p H', H p = none → Same H H' → OwnN Γ H H' O (.lst ds) p → Q (.ref p) H') : wpAny (model X.prog X.w) X.A (call (.type "list") [.ref a]) (EP X pins σ Q) X.xe s := by
  obtain ⟨o, es, ep, vv, hs, h1, h2, h3, h4, h5, h6, h7⟩ := h.ex
  have hz : es.size = us.length := by rw [← h4, List.length_map, Array.length_toList]
  refine PySem.W.kdl_call (kdl_raw hs h2 h3) (I.ok.hd hc) h1 (by rw [hz]; exact h7) fun h' tk acc' c' kp e it => ?_
  have hn := I.hok.fresh (Nat.le_refl s.heap.objs.size)
  refine ⟨.ref s.heap.objs.size, _, I.laid (t' := tk) (o := .lst vv) kp (Nat.le_refl _) ⟨by rw [h6.length]; exact h7, us, c', h6, ?_⟩, rfl, q _ _ hn (same_new hn) ⟨_, upd_same, h5⟩⟩
  rw [e, ← items_of h4 it]
theorem b_list (hc : X.calm = true) : CallR X (.type "list") (r1F X.K sList) := by
  intro pins s σ H xs us Q I r hh
  obtain ⟨x, Γ, O, d, res, rfl, hK, ok, px, hs, q⟩ := hh
  cases d <;> simp only [sList, reduceCtorEq] at hs
  case tup ds =>
    cases hs
    obtain ⟨a, vs, rfl, n, hp, rp⟩ := px.tup
    rw [hK] at hp
    exact call_list_of pins s σ H _ us Q I r ⟨a, vs, rfl, .inr hp.t, fun l hl => q l _ hl (same_new hl) ⟨vs, upd_same, rp⟩⟩
  case lst ds =>
    cases hs
    obtain ⟨a, vs, rfl, n, hp, rp⟩ := px.lst ok.d
    exact call_list_of pins s σ H _ us Q I r ⟨a, vs, rfl, .inl (SqL.of hp), fun l hl => q l _ hl (same_new hl) ⟨vs, upd_same, rp⟩⟩
  case dct ds =>
    cases hs
    obtain ⟨a, ks, rfl, n, hp, rp⟩ := px.dct ok.d
    obtain ⟨u, rfl, ru⟩ := vals1 r
    obtain rfl : u = Value.ref a := ru
    obtain ⟨us, h⟩ := dsrc_K I hp rp
    exact list_dict hc I h q
  case dcn ds =>
    cases hs
    obtain ⟨a, ks, rfl, n, hp, rp⟩ := px.dcn ok.d
    obtain ⟨u, rfl, ru⟩ := vals1 r
    obtain rfl : u = Value.ref a := ru
    obtain ⟨us, h⟩ := dsrc_N I hK hp rp
    exact list_dict hc I h q
theorem b_sorted (hc : X.calm = true) (hu : X.A.units + 120 < cLine) : CallR X (.builtin "sorted") (r1F X.K sSorted) := by
  intro pins s σ H xs us Q I r hh
  obtain ⟨x, Γ, O, d, res, rfl, hK, ok, px, hs, q⟩ := hh
  obtain ⟨u, rfl, ru⟩ := vals1 r
  cases d <;> simp only [sSorted, reduceCtorEq] at hs
  case tup ds =>
    obtain ⟨out, e, rfl⟩ := map_some hs
    obtain ⟨a, vs, rfl, n, hp, rp⟩ := px.tup
    rw [hK] at hp
    obtain rfl : u = Value.ref a := ru
    obtain ⟨its, rv, pl, hz⟩ := I.tuple hp.t
    refine sort_core hu I hK rp rv (fun A E Q h => collect_tuple ?_ h (by rw [← rv.length]; exact hz)) e q
    obtain ⟨o, ho, hc, n, hd⟩ := pl
    exact ⟨o, ho, hc, n, hd⟩
  case lst ds =>
    obtain ⟨out, e, rfl⟩ := map_some hs
    obtain ⟨a, vs, rfl, n, hp, rp⟩ := px.lst ok.d
    obtain rfl : u = Value.ref a := ru
    obtain ⟨its, rv, pl, hz⟩ := I.list (SqL.of hp)
    exact sort_core hu I hK rp rv (fun A E Q h => collect_list pl.isList h (by rw [← rv.length]; exact hz)) e q
  case dct ds =>
    obtain ⟨out, e, rfl⟩ := map_some hs
    obtain ⟨a, ks, rfl, n, hp, rp⟩ := px.dct ok.d
    obtain rfl : u = Value.ref a := ru
    obtain ⟨us, h⟩ := dsrc_K I hp rp
    obtain ⟨_, _, _, _, _, _, _, _, _, h5, h6, _⟩ := h.ex
    exact sort_coll hc hu I hK h5 h6 (coll_of h) e q
  case dcn ds =>
    obtain ⟨out, e, rfl⟩ := map_some hs
    obtain ⟨a, ks, rfl, n, hp, rp⟩ := px.dcn ok.d
    obtain rfl : u = Value.ref a := ru
    obtain ⟨us, h⟩ := dsrc_N I hK hp rp
    obtain ⟨_, _, _, _, _, _, _, _, _, h5, h6, _⟩ := h.ex
    exact sort_coll hc hu I hK h5 h6 (coll_of h) e q
theorem b_min2 (hc : X.calm = true) : CallR X (.builtin "min") (rC2 X.K sMin2) := by
  intro pins s σ H xs us Q I r hh
  obtain ⟨x, y, Γ, O, d, e, res, rfl, hK, ok, px, py, hs, q⟩ := hh
  cases d <;> cases e <;> simp only [sMin2, reduceCtorEq] at hs
  cases hs
  rw [px.int, py.int] at r
  exact call_min2 hc pins s σ H _ us Q I r ⟨_, _, rfl, q _ H (Same.refl H) (.int _)⟩
theorem b_max2 (hc : X.calm = true) : CallR X (.builtin "max") (rC2 X.K sMax2) := by
  intro pins s σ H xs us Q I r hh
  obtain ⟨x, y, Γ, O, d, e, res, rfl, hK, ok, px, py, hs, q⟩ := hh
  cases d <;> cases e <;> simp only [sMax2, reduceCtorEq] at hs
  cases hs
  rw [px.int, py.int] at r
  exact call_max2 hc pins s σ H _ us Q I r ⟨_, _, rfl, q _ H (Same.refl H) (.int _)⟩
theorem b_gcd : CallR X (.builtin "math.gcd") (rC2 X.K sGcd) := by
  intro pins s σ H xs us Q I r hh
  obtain ⟨x, y, Γ, O, d, e, res, rfl, hK, ok, px, py, hs, q⟩ := hh
  cases d <;> cases e <;> simp only [sGcd, reduceCtorEq] at hs
  cases hs
  rw [px.int, py.int] at r
  exact cr_gcd pins s σ H _ us Q I r ⟨_, _, rfl, q _ H (Same.refl H) (.int _)⟩
end
end SG

set_option Elab.async false
set_option linter.all false
set_option maxRecDepth 100000
set_option maxHeartbeats 4000000
namespace SG
open PySem PySem.Spec L2
open PyProof.Rows hiding St
open PySem.W (dataLe alike AllAlike AlikeAll)
/-! ### min, max of a list -/
mutual
theorem toPy_inj : ∀ (n : Nat) (d e : D), pl n d = true → pl n e = true → toPy d = toPy e → d = e
  | n, .non, e, _, he, h => by cases e <;> simp only [toPy, reduceCtorEq] at h <;> rfl
  | n, .bl b, e, _, he, h => by cases e <;> simp only [toPy, reduceCtorEq, PyData.bool.injEq] at h; rw [h]
  | n, .int b, e, _, he, h => by cases e <;> simp only [toPy, reduceCtorEq, PyData.int.injEq] at h; rw [h]
  | n, .str b, e, _, he, h => by cases e <;> simp only [toPy, reduceCtorEq, PyData.str.injEq] at h; rw [h]
  | 0, .tup _, _, hd, _, _ => by simp [pl] at hd
  | 0, .lst _, _, hd, _, _ => by simp [pl] at hd
  | n + 1, .tup xs, e, hd, he, h => by
    cases e <;> simp only [toPy, reduceCtorEq, PyData.tuple.injEq] at h
    rw [toPys_inj n xs _ (by simpa [pl] using hd) (by simpa [pl] using he) h]
  | n + 1, .lst xs, e, hd, he, h => by
    cases e <;> simp only [toPy, reduceCtorEq, PyData.list.injEq] at h
    rw [toPys_inj n xs _ (by simpa [pl] using hd) (by simpa [pl] using he) h]
  | n, .dct _, _, hd, _, _ => by cases n <;> simp [pl] at hd
  | n, .dcn _, _, hd, _, _ => by cases n <;> simp [pl] at hd
  | n, .fn _, _, hd, _, _ => by cases n <;> simp [pl] at hd
  | n, .draw, _, hd, _, _ => by cases n <;> simp [pl] at hd
  | n, .scr _, _, hd, _, _ => by cases n <;> simp [pl] at hd
  | n, .exn _ _, _, hd, _, _ => by cases n <;> simp [pl] at hd
theorem toPys_inj : ∀ (n : Nat) (d e : List D), pls n d = true → pls n e = true → toPys d = toPys e → d = e
  | n, [], [], _, _, _ => rfl
  | n, [], y :: ys, _, _, h => by simp [toPys] at h
  | n, x :: xs, [], _, _, h => by simp [toPys] at h
  | n, x :: xs, y :: ys, hd, he, h => by
    simp only [pls, Bool.and_eq_true] at hd he
    simp only [toPys, List.cons.injEq] at h
    rw [toPy_inj n x y hd.1 he.1 h.1, toPys_inj n xs ys hd.2 he.2 h.2]
end
theorem toPy_min (x : D) : ∀ xs : List D, toPy (minDD x xs) = PySem.W.minD (toPy x) (toPys xs) := by
  intro xs
  unfold minDD PySem.W.minD
  induction xs generalizing x with
  | nil => rfl
  | cons y ys ih =>
    rw [toPys, List.foldl_cons, List.foldl_cons, ih]
    unfold dlt
    split <;> rfl
theorem toPy_max (x : D) : ∀ xs : List D, toPy (maxDD x xs) = PySem.W.maxD (toPy x) (toPys xs) := by
  intro xs
  unfold maxDD PySem.W.maxD
  induction xs generalizing x with
  | nil => rfl
  | cons y ys ih =>
    rw [toPys, List.foldl_cons, List.foldl_cons, ih]
    unfold dlt
    split <;> rfl
theorem fold_mem {α : Type} (p : α → α → Bool) : ∀ (xs : List α) (x : α), xs.foldl (fun a y => if p a y = true then y else a) x ∈ x :: xs
  | [], x => by simp
  | y :: ys, x => by
    rw [List.foldl_cons]
    split
    · exact List.mem_cons_of_mem _ (fold_mem p ys y)
    · have := fold_mem p ys x
      rcases List.mem_cons.mp this with h | h
      · rw [h]; exact List.mem_cons_self
      · exact List.mem_cons_of_mem _ (List.mem_cons_of_mem _ h)
theorem minDD_mem (x : D) (xs : List D) : minDD x xs ∈ x :: xs := fold_mem (fun a y => dlt y a) xs x
theorem maxDD_mem (x : D) (xs : List D) : maxDD x xs ∈ x :: xs := fold_mem (fun a y => dlt a y) xs x
theorem ordOk_alike {xs : List D} (h : ordOk xs = true) : AlikeAll (toPys xs) ∧ pls DP xs = true := by
  unfold ordOk alikes at h
  simp only [Bool.and_eq_true, List.all_eq_true] at h
  obtain ⟨⟨h1, h2⟩, h3⟩ := h
  refine ⟨⟨?_, ?_⟩, h3⟩
  · rw [toPys_map]
    intro a ha b hb
    obtain ⟨x, hx, rfl⟩ := List.mem_map.mp ha
    obtain ⟨y, hy, rfl⟩ := List.mem_map.mp hb
    exact h1 x hx y hy
  · rw [toPys_map]
    intro a ha e
    obtain ⟨x, hx, rfl⟩ := List.mem_map.mp ha
    have := h2 x hx
    cases x <;> simp only [toPy, reduceCtorEq] at e
    simp [isNon] at this
theorem best_of {X : Cx} {pins : List (Addr × Obj)} {s : Shared} {σ : St} {H : Hp} {Q : VK} (I : Inv X pins σ H s) {Γ : Gm} {O : Addr → Prop} {ds : List D} {vs : List V} {its : List Value} {r : D} {i : Nat} {v : Value} {h' : Heap} {tk : Nat} {bs : List Addr}
    (hK : Γ.K = X.K) (hp : pls DP ds = true) (hm : r ∈ ds) (rp : RelDs Γ H O ds vs) (rv : Vals vs its) (hi : its.toArray[i]? = some v) (hr : Reads h' v (toPy r) bs) (hk : ∀ b o, s.heap.get? b = some o → h'.get? b = some o)
    (q : ∀ v H', Same H H' → RelD Γ H' O r v → Q v H') : EP X pins σ Q v { s with heap := h', toks := tk } := by
  have hi' : its[i]? = some v := by simpa using hi
  have hlt : i < ds.length := by
    have := (List.getElem?_eq_some_iff.mp hi').1
    rw [rp.length, rv.length]; exact this
  obtain ⟨w, hw, rw'⟩ := rp.get (List.getElem?_eq_getElem hlt)
  obtain ⟨v', hv, rr⟩ := rv.get hw
  rw [hi'] at hv
  cases hv
  have hpi : pl DP ds[i] = true := by
    rw [pls_all, List.all_eq_true] at hp
    exact hp _ (List.getElem_mem hlt)
  have hpr : pl DP r = true := by
    rw [pls_all, List.all_eq_true] at hp
    exact hp _ hm
  obtain ⟨as, ra⟩ := read_of I hK hpi rw'.p rr
  have e := PySem.SeqAt.plain_unique _ _ _ _ _ (pl_plain _ _ hpi).1 (PyProof.Rows.Reads.keeps hk ra) hr
  have e2 := toPy_inj _ _ _ hpi hpr e
  exact ⟨w, H, I.kept hk, rr, q _ H (Same.refl H) (by rw [← e2]; exact rw')⟩
theorem depth_all {xs : List D} (h : pls DP xs = true) : PyData.depthAll (toPys xs) ≤ 100 := (pls_plain _ _ h).2
section
variable {X : Cx}
theorem b_min (hc : X.calm = true) (hu : X.A.units + 120 < cLine) : CallR X (.builtin "min") (r1 X.K sMin) := by
  intro pins s σ H xs us Q I r hh
  obtain ⟨x, Γ, O, d, res, rfl, hK, ok, px, hs, q⟩ := hh
  obtain ⟨u, rfl, ru⟩ := vals1 r
  cases d <;> simp only [sMin, reduceCtorEq] at hs
  rename_i ds
  cases ds with
  | nil => simp [sMin] at hs
  | cons y ys =>
    simp only [sMin] at hs
    split at hs
    · rename_i ho
      cases hs
      obtain ⟨ha, hp⟩ := ordOk_alike ho
      obtain ⟨a, vs, rfl, n, hq, rp⟩ := px.lst ok.d
      obtain rfl : u = Value.ref a := ru
      obtain ⟨its, rv, plq, hz⟩ := I.list (SqL.of hq)
      have dps := rp.dp hp
      rw [hK] at dps
      obtain ⟨as, ra⟩ := Dp.readsAll I _ _ _ dps rv
      have := depth_all hp
      rw [toPys] at ra ha this
      refine PySem.W.min_list_data (I.ok.hd hc) plq.isList (by simpa using ra) ha (by omega) fun i v h' tk bs h1 h2 h3 => ?_
      exact best_of I hK hp (minDD_mem y ys) rp rv h1 (by rw [toPy_min]; exact h2) h3 q
    · cases hs
theorem b_max (hc : X.calm = true) (hu : X.A.units + 120 < cLine) : CallR X (.builtin "max") (r1 X.K sMax) := by
  intro pins s σ H xs us Q I r hh
  obtain ⟨x, Γ, O, d, res, rfl, hK, ok, px, hs, q⟩ := hh
  obtain ⟨u, rfl, ru⟩ := vals1 r
  cases d <;> simp only [sMax, reduceCtorEq] at hs
  rename_i ds
  cases ds with
  | nil => simp [sMax] at hs
  | cons y ys =>
    simp only [sMax] at hs
    split at hs
    · rename_i ho
      cases hs
      obtain ⟨ha, hp⟩ := ordOk_alike ho
      obtain ⟨a, vs, rfl, n, hq, rp⟩ := px.lst ok.d
      obtain rfl : u = Value.ref a := ru
      obtain ⟨its, rv, plq, hz⟩ := I.list (SqL.of hq)
      have dps := rp.dp hp
      rw [hK] at dps
      obtain ⟨as, ra⟩ := Dp.readsAll I _ _ _ dps rv
      have := depth_all hp
      rw [toPys] at ra ha this
      refine PySem.W.max_list_data (I.ok.hd hc) plq.isList (by simpa using ra) ha (by omega) fun i v h' tk bs h1 h2 h3 => ?_
      exact best_of I hK hp (maxDD_mem y ys) rp rv h1 (by rw [toPy_max]; exact h2) h3 q
    · cases hs
end
/-! ### isinstance -/
def tyOf : D → Option String
  | .non => some "NoneType"
  | .bl _ => some "bool"
  | .int _ => some "int"
  | .str _ => some "str"
  | .tup _ => some "tuple"
  | .lst _ => some "list"
  | .dct _ => some "dict"
  | _ => none
/-- the built-in types that are asked for here -/
def isiTys : List String := ["int", "bool", "str", "tuple", "list", "dict"]
def isT (t T : String) : Bool := t == T || (t == "bool" && T == "int")
theorem isT_kit : ∀ d t, tyOf d = some t → ∀ T ∈ isiTys, kitB t T = some (isT t T) := by
  have h : ∀ t ∈ ["NoneType", "bool", "int", "str", "tuple", "list", "dict"], ∀ T ∈ isiTys, kitB t T = some (isT t T) := by decide +kernel
  intro d t e
  refine h t ?_
  cases d <;> simp only [tyOf, reduceCtorEq, Option.some.injEq] at e <;> subst e <;> simp
def sIsi (Ts : List String) (d : D) : Option D := (tyOf d).map fun t => .bl (Ts.any (isT t))
section
variable {X : Cx}
theorem ty_rel {Γ : Gm} {H : Hp} {O : Addr → Prop} {d : D} {x : V} {t : String} (h : RelP Γ H O d x) (dO : ∀ a, Γ.DR a → O a) (e : tyOf d = some t) : TyX Γ.K H x (.type t) := by
  cases d <;> simp only [tyOf, reduceCtorEq, Option.some.injEq] at e <;> subst e
  · rw [h.non]; exact .base .non
  · rw [h.bl]; exact .base (.bl _)
  · rw [h.int]; exact .base (.int _)
  · rw [h.str]; exact .base (.str _)
  · obtain ⟨a, vs, rfl, n, hp, rp⟩ := h.tup
    rcases hp with ⟨o, hp, _⟩ | ⟨o, its, k, hl, hc, _⟩
    · exact .fTuple hp
    · exact .kTuple hl hc
  · obtain ⟨a, vs, rfl, n, hp, rp⟩ := h.lst dO
    exact .base (.lst hp)
  · obtain ⟨a, vs, rfl, n, hp, rp⟩ := h.dct dO
    rcases hp with hp | ⟨o, hp⟩
    · exact .base (.dK hp)
    · exact .fDict hp
def rIs1 (K : PySem.W.Frag) (T : String) : List V → Hp → VK → Prop := fun xs H Q => ∃ (x : V) (Γ : Gm) (O : Addr → Prop) (d r : D), xs = [x, .ty T] ∧ Γ.K = K ∧ OK' Γ H O ∧ RelP Γ H O d x ∧ sIsi [T] d = some r ∧ ∀ v, RelD Γ H O r v → Q v H
theorem b_isi {T : String} (hT : T ∈ isiTys) : CallR X (.builtin "isinstance") (rIs1 X.K T) := by
  intro pins s σ H xs us Q I r hh
  obtain ⟨x, Γ, O, d, res, rfl, hK, ok, px, hs, q⟩ := hh
  unfold sIsi at hs
  obtain ⟨t, e, rfl⟩ := map_some hs
  have tx := ty_rel px ok.d e
  rw [hK] at tx
  refine call_isi pins s σ H _ us Q I r ⟨x, .ty T, .type t, .type T, isT t T, rfl, .ty T, tx, kit_ty (isT_kit d t e T hT), q _ ?_⟩
  have : [T].any (isT t) = isT t T := by simp
  rw [this]
  exact .bl _
def rIs2 (K : PySem.W.Frag) (Ts : List String) : List V → Hp → VK → Prop := fun xs H Q => ∃ (x : V) (tp : Addr) (Γ : Gm) (O : Addr → Prop) (d r : D), xs = [x, .ref tp] ∧ H tp = some (.tup (Ts.map V.ty)) ∧ Γ.K = K ∧ OK' Γ H O ∧ RelP Γ H O d x ∧ sIsi Ts d = some r ∧ ∀ v, RelD Γ H O r v → Q v H
theorem kit_any {K : PySem.W.Frag} {t : String} : ∀ {Ts : List String}, (∀ T ∈ Ts, kitB t T = some (isT t T)) → PySem.W.kitAny K (.type t) (Ts.map Value.type) = some (Ts.any (isT t))
  | [], _ => kitAny_nil
  | T :: Ts, h => by
    rw [List.map_cons]
    refine kitAny_cons (kit_ty (h T List.mem_cons_self)) (fun hb => ?_) (fun hb => ?_)
    · rw [List.any_cons, hb, Bool.false_or]
      exact kit_any fun T' h' => h T' (List.mem_cons_of_mem _ h')
    · rw [List.any_cons, hb, Bool.true_or]
theorem cls_tys : ∀ Ts : List String, Paired ClsV (Ts.map V.ty) (Ts.map Value.type)
  | [] => .nil
  | T :: Ts => .cons (.ty T) (cls_tys Ts)
theorem b_isiT {Ts : List String} (hT : ∀ T ∈ Ts, T ∈ isiTys) : CallR X (.builtin "isinstance") (rIs2 X.K Ts) := by
  intro pins s σ H xs us Q I r hh
  obtain ⟨x, tp, Γ, O, d, res, rfl, ht, hK, ok, px, hs, q⟩ := hh
  unfold sIsi at hs
  obtain ⟨t, e, rfl⟩ := map_some hs
  have tx := ty_rel px ok.d e
  rw [hK] at tx
  exact call_isiT pins s σ H _ us Q I r ⟨x, tp, Ts.map V.ty, .type t, Ts.map Value.type, _, rfl, ht, cls_tys Ts, tx, kit_any fun T h => isT_kit d t e T (hT T h), q _ (.bl _)⟩
end
section
variable {S : Sta} {C : Ctx} {E : XK} {X : Cx} {e a b c call : Expr} {t ta tb tc : DE} {pos : Pos}
theorem e_isi {T : String} (hK : X.K = S.K) (h : PE X call (tCB (rIs1 X.K T) (tCons (rdP S C E t) (tCons (tC (.ty T)) tNil)))) : PE X call (rdE S C E (dFun1 (sIsi [T]) t)) :=
  h.by' fun σ H Q ⟨Γ, F, H0, ρ, δ, hS, R, o⟩ => ⟨Γ, F, H0, ρ, δ, hS, R, o.bind.imp fun d1 δ1 H1 A1 o1 x q1 => by
    obtain ⟨r, e, q⟩ := o1.opt
    have R1 := R.aft A1
    exact ⟨x, Γ, _, d1, r, rfl, by rw [hK, ← hS], R1.ok', q1, e, fun v rv nw => q H1 R1.refl v rv⟩⟩
theorem e_isiT {Ts : List String} {es : List Expr} (hK : X.K = S.K) (ht : PA X es (fun σ H Q => Q (Ts.map V.ty) H)) (hl : Ts.length ≤ 100) {k : Nat} {p2 : Pos} (h : ∀ {t2 : TE}, PE X (.Tuple es k p2) t2 → PE X call (tCB (rIs2 X.K Ts) (tCons (rdP S C E t) (tCons t2 tNil)))) : PE X call (rdE S C E (dFun1 (sIsi Ts) t)) :=
  (h (pe_tup ht).nw).by' fun σ H Q ⟨Γ, F, H0, ρ, δ, hS, R, o⟩ => ⟨Γ, F, H0, ρ, δ, hS, R, o.bind.imp fun d1 δ1 H1 A1 o1 x q1 => ⟨by rw [List.length_map]; exact Nat.le_trans hl (by rw [sizeLine_eq]; decide), fun p hp nw => by
    obtain ⟨r, e, q⟩ := o1.opt
    have R1 := R.aft A1
    have A2 := aft_nw hK hS (same_new (o := HO.tup (Ts.map V.ty)) hp) R1.dr R1.tab nw
    have R2 := R1.aft A2
    refine ⟨x, p, Γ, _, d1, r, rfl, upd_same, by rw [hK, ← hS], R2.ok', q1.mvA A2 R.dO, e, fun v rv _ => ?_⟩
    exact q _ A2 v rv⟩⟩
end
end SG

set_option Elab.async false
set_option linter.all false
set_option maxRecDepth 100000
set_option maxHeartbeats 4000000
namespace SG
open PySem PySem.Spec L2
open PyProof.Rows hiding St
/-! ### a def's promise -/
def spEv (S : Sta) (f : List D → M D) : Sp := fun vs H Q E => ∃ (Γ : Gm) (F : Addr → Prop) (ds : List D) (δ : Dr), Γ.toSta = S ∧ (∀ a, F a → ∃ o, H a = some o ∧ ∀ ps, o ≠ .tbl ps) ∧ (∀ a, Γ.DR a → F a) ∧
  DrawRel Γ δ H ∧ NW Γ.K H ∧ LamX.Tabs Γ.tabs H ∧ RelDs Γ H F ds vs ∧ OutG Γ H E (fun d _ H' => ∀ v, RelD Γ H' F d v → Q v H') (f ds δ)
/-- what holds of the defs: each keeps its promise at level k -/
structure FnFact (P : Program) (w : World) (K : PySem.W.Frag) (mg : Str → Option Value) (base : Heap) (S : Sta) (k : Nat) (n : Nat) (x : Str) (ps : List Str) (f : List D → M D) : Prop where
  ex : ∃ (a : Addr) (fd : FuncData), S.fn n = some a ∧ mg x = some (.ref a) ∧ PySem.W.keepIn K (.ref a) = true ∧ Binds K fd ps [] ∧ FnOk P w K mg base (L2.CX P w) k a fd ps (spEv S f)
section
variable {S : Sta} {C : Ctx} {E : XK} {X : Cx} {e : Expr} {es : List Expr} {r : DA} {x : Str} {p pos : Pos} {ps : List Str} {k n : Nat}
theorem call_core {f : List D → M D} {σ : St} {H : Hp} {Q : VK} {hK : X.K = S.K} (h : rdE S C E (fun C ρ => r C ρ >>= f) σ H Q) : tCall (spEv S f) [] E (rdA S C E r) σ H Q := by
  obtain ⟨Γ, F, H0, ρ, δ, hS, R, o⟩ := h
  refine ⟨Γ, F, H0, ρ, δ, hS, R, o.bind.imp fun ds δ1 H1 A1 o1 vs q => ?_⟩
  have R1 := R.aft A1
  show spEv S f (vs ++ []) H1 Q E
  rw [List.append_nil]
  exact ⟨Γ, Oall F ρ σ, ds, δ1, hS, R1.otr, R1.dO, R1.dr, R1.nw, R1.tab, q, o1⟩
theorem e_call (hK : X.K = S.K) (F : FnFact X.prog X.w X.K X.mg X.base S k n x ps (C.call n)) (hr : Room k X.A) (hg : Gl X x) (tk : Takes X (fun cls d _ H => E cls d H)) (ha : PA X (e :: es) (rdA S C E r)) (hdb : (x == ("__debug__" : Str)) = false)
    (he : starEach (e :: es) X.env = (false, eval e X.env) :: starEach es X.env) (hpl : (backTo pos (starEach es X.env)).any (·.1) = false) : PE X (.Call (.Name x p) (e :: es) [] pos) (rdE S C E (dCall n r)) := by
  obtain ⟨a, fd, h1, h2, h3, h4, h5⟩ := F.ex
  exact (pe_call h5 hr hg h2 h3 h4 .nil (passes_call tk fun _ _ _ _ z => z) ha hdb he hpl).mono fun σ H Q h => call_core (hK := hK) h
theorem e_call0 (hK : X.K = S.K) (F : FnFact X.prog X.w X.K X.mg X.base S k n x ps (C.call n)) (hr : Room k X.A) (hg : Gl X x) (tk : Takes X (fun cls d _ H => E cls d H)) (hdb : (x == ("__debug__" : Str)) = false) : PE X (.Call (.Name x p) [] [] pos) (rdE S C E (dCall n dNil)) := by
  obtain ⟨a, fd, h1, h2, h3, h4, h5⟩ := F.ex
  exact (pe_call0 h5 hr hg h2 h3 h4 .nil (passes_call tk fun _ _ _ _ z => z) hdb).mono fun σ H Q h => by
    have q := call_core (r := dNil) (hK := hK) h
    obtain ⟨Γ, F, H0, ρ, δ, hS, R, o⟩ := q
    exact o.pure H R.refl [] .nil
end
/-! ### targets -/
inductive Tg where
  | n (i : Nat) | t (ts : List Tg) | l (ts : List Tg)
mutual
def bindT : Tg → D → Sls → Option Sls
  | .n i, d, ρ => if i < ρ.length then some (ρ.set i (.val d)) else none
  | .t ts, .tup ds, ρ => bindTs ts ds ρ
  | .t ts, .pr a b, ρ => bindTs ts [a, b] ρ
  | .t _, _, _ => none
  | .l ts, .lst ds, ρ => bindTs ts ds ρ
  | .l _, _, _ => none
def bindTs : List Tg → List D → Sls → Option Sls
  | [], [], ρ => some ρ
  | t :: ts, d :: ds, ρ => match bindT t d ρ with
    | some ρ' => bindTs ts ds ρ'
    | none => none
  | _, _, _ => none
end
mutual
def slT : Tg → List Nat
  | .n i => [i]
  | .t ts => slTs ts
  | .l ts => slTs ts
def slTs : List Tg → List Nat
  | [] => []
  | t :: ts => slT t ++ slTs ts
end
/-- only the slots is have changed -/
def Chg (is : List Nat) (σ σ' : St) : Prop := σ'.length = σ.length ∧ ∀ j, j ∉ is → σ'[j]? = σ[j]?
theorem Chg.refl {is : List Nat} {σ : St} : Chg is σ σ := ⟨rfl, fun _ _ => rfl⟩
theorem Chg.trans {is js : List Nat} {σ σ1 σ2 : St} (a : Chg is σ σ1) (b : Chg js σ1 σ2) : Chg (is ++ js) σ σ2 :=
  ⟨b.1.trans a.1, fun j h => (b.2 j fun z => h (List.mem_append_right _ z)).trans (a.2 j fun z => h (List.mem_append_left _ z))⟩
section
variable {Γ : Gm} {F : Addr → Prop} {H0 H : Hp} {ρ : Sls} {δ : Dr} {σ : St}
theorem ownAt_set_val {i : Nat} {d : D} {v : V} {a : Addr} (h : OwnAt (ρ.set i (.val d)) (σ.set i (some v)) a) : OwnAt ρ σ a := by
  obtain ⟨j, e, h1, h2⟩ := h
  by_cases hj : i = j
  · subst hj
    by_cases hl : i < ρ.length
    · rw [List.getElem?_set_self hl] at h1; cases h1
    · rw [List.getElem?_eq_none (by rw [List.length_set]; omega)] at h1; cases h1
  · rw [List.getElem?_set_ne hj] at h1 h2
    exact ⟨j, e, h1, h2⟩
theorem oall_set_val {i : Nat} {d : D} {v : V} {a : Addr} (h : Oall F (ρ.set i (.val d)) (σ.set i (some v)) a) : Oall F ρ σ a := by
  rcases h with h | h
  · exact .inl h
  · exact .inr (ownAt_set_val h)
theorem Rel.setVal (R : Rel Γ F H0 ρ δ σ H) {i : Nat} {d : D} {v : V} (r : RelD Γ H (Oall F ρ σ) d v) (hi : i < ρ.length) : Rel Γ F H0 (ρ.set i (.val d)) δ (σ.set i (some v)) H where
  len := by rw [List.length_set, List.length_set]; exact R.len
  val := fun j e h => by
    by_cases hj : i = j
    · subst hj
      rw [List.getElem?_set_self hi] at h
      cases h
      exact ⟨v, List.getElem?_set_self (by rw [← R.len]; exact hi), r.less fun a => oall_set_val⟩
    · rw [List.getElem?_set_ne hj] at h
      obtain ⟨w, h1, q⟩ := R.val j e h
      exact ⟨w, by rw [List.getElem?_set_ne hj]; exact h1, q.less fun a => oall_set_val⟩
  own := fun j e h => by
    by_cases hj : i = j
    · subst hj
      rw [List.getElem?_set_self hi] at h
      cases h
    · rw [List.getElem?_set_ne hj] at h
      obtain ⟨a, h1, nf, n0, q⟩ := R.own j e h
      exact ⟨a, by rw [List.getElem?_set_ne hj]; exact h1, nf, n0, q.mv (Ext.refl _ _) (fun a _ n z => n (oall_set_val z)) fun o e _ => e⟩
  inj := fun j l e f a h1 h2 h3 h4 => by
    have nj : i ≠ j := fun z => by subst z; rw [List.getElem?_set_self hi] at h1; cases h1
    have nl : i ≠ l := fun z => by subst z; rw [List.getElem?_set_self hi] at h2; cases h2
    rw [List.getElem?_set_ne nj] at h1 h3
    rw [List.getElem?_set_ne nl] at h2 h4
    exact R.inj j l e f a h1 h2 h3 h4
  dr := R.dr
  dF := R.dF
  ftr := R.ftr
  ext := R.ext
  nw := R.nw
  tab := R.tab
end
/-- a target's reading -/
def gD (S : Sta) (t : Tg) : TG := fun v σ H Q => ∃ (Γ : Gm) (F : Addr → Prop) (H0 : Hp) (ρ ρ' : Sls) (δ : Dr) (d : D), Γ.toSta = S ∧ Rel Γ F H0 ρ δ σ H ∧ RelD Γ H (Oall F ρ σ) d v ∧ bindT t d ρ = some ρ' ∧
  ∀ σ', Rel Γ F H0 ρ' δ σ' H → Chg (slT t) σ σ' → (∀ a, Oall F ρ' σ' a → Oall F ρ σ a) → Q σ' H
def gDs (S : Sta) (ts : List Tg) : TGs := fun vs σ H Q => ∃ (Γ : Gm) (F : Addr → Prop) (H0 : Hp) (ρ ρ' : Sls) (δ : Dr) (ds : List D), Γ.toSta = S ∧ Rel Γ F H0 ρ δ σ H ∧ RelDs Γ H (Oall F ρ σ) ds vs ∧ bindTs ts ds ρ = some ρ' ∧
  ∀ σ', Rel Γ F H0 ρ' δ σ' H → Chg (slTs ts) σ σ' → (∀ a, Oall F ρ' σ' a → Oall F ρ σ a) → Q σ' H
section
variable {S : Sta} {X : Cx} {e : Expr} {es : List Expr} {pos : Pos}
theorem _root_.L2.PG.mono {t t' : TG} (h : PG X e t) (k : ∀ v σ H Q, t' v σ H Q → t v σ H Q) : PG X e t' := ⟨fun pins s σ H v u Q I r q => h.run pins s σ H v u Q I r (k v σ H Q q)⟩
theorem _root_.L2.PGs.mono {t t' : TGs} (h : PGs X es t) (k : ∀ v σ H Q, t' v σ H Q → t v σ H Q) : PGs X es t' := ⟨fun pins s σ H v u Q I r q => h.run pins s σ H v u Q I r (k v σ H Q q)⟩
theorem g_name {i : Nat} (h : PG X e (gName i)) : PG X e (gD S (.n i)) := h.mono fun v σ H Q ⟨Γ, F, H0, ρ, ρ', δ, d, hS, R, r, hb, q⟩ => by
  simp only [bindT] at hb
  split at hb
  · rename_i hl
    cases hb
    refine q _ (R.setVal r hl) ⟨List.length_set, fun j hj => ?_⟩ fun a => oall_set_val
    rw [List.getElem?_set_ne (fun z => hj (by simp [slT, z]))]
  · cases hb
theorem gs_nil : PGs X [] (gDs S []) := pgs_nil.mono fun vs σ H Q ⟨Γ, F, H0, ρ, ρ', δ, ds, hS, R, r, hb, q⟩ => by
  cases ds with
  | nil =>
    simp only [bindTs, Option.some.injEq] at hb
    subst hb
    cases r
    exact ⟨rfl, q σ R .refl fun _ z => z⟩
  | cons d ds => simp [bindTs] at hb
theorem gs_cons {t : Tg} {ts : List Tg} (h1 : PG X e (gD S t)) (h2 : PGs X es (gDs S ts)) (hs : (assignEach (e :: es) X.env).map (·.2) = assign e X.env :: (assignEach es X.env).map (·.2)) : PGs X (e :: es) (gDs S (t :: ts)) :=
  (pgs_cons h1 h2 hs).mono fun vs σ H Q ⟨Γ, F, H0, ρ, ρ', δ, ds, hS, R, r, hb, q⟩ => by
    cases ds with
    | nil => simp [bindTs] at hb
    | cons d ds =>
      simp only [bindTs] at hb
      cases hq : bindT t d ρ with
      | none => rw [hq] at hb; cases hb
      | some ρ1 =>
        rw [hq] at hb
        cases r with
        | cons r1 r2 =>
          refine ⟨_, _, rfl, Γ, F, H0, ρ, ρ1, δ, d, hS, R, r1, hq, fun σ1 R1 c1 o1 => ⟨Γ, F, H0, ρ1, ρ', δ, ds, hS, R1, ?_, hb, fun σ2 R2 c2 o2 => q σ2 R2 (c1.trans c2) fun a z => o1 a (o2 a z)⟩⟩
          exact r2.mv (Ext.refl _ _) fun a _ n z => n (o1 a z)
theorem g_tup {ts : List Tg} {k n : Nat} (hK : X.K = S.K) (hc : X.calm = true) (h : PGs X es (gDs S ts)) (hn : (assignEach es X.env).length = n) (hst : (assignEach es X.env).findIdx? (·.1) = none) (hl : ts.length = n) : PG X (.Tuple es k pos) (gD S (.t ts)) :=
  (pg_tup hc h hn hst).mono fun v σ H Q ⟨Γ, F, H0, ρ, ρ', δ, d, hS, R, r, hb, q⟩ => by
    have fin : ∀ {ds : List D} {vs : List V} {a : Addr}, SqT Γ.K H a vs → RelDs Γ H (Oall F ρ σ) ds vs → bindTs ts ds ρ = some ρ' → v = .ref a →
        ∃ a xs, v = .ref a ∧ SqT X.K H a xs ∧ xs.length = n ∧ gDs S ts xs σ H Q := by
      rintro ds vs a hq rr hb rfl
      refine ⟨_, _, rfl, by rw [hK, ← hS]; exact hq, ?_, Γ, F, H0, ρ, ρ', δ, ds, hS, R, rr, hb, fun σ' R' c o => q σ' R' (by simpa [slT] using c) o⟩
      rw [← rr.length, ← hl]
      have : ∀ (ts : List Tg) (ds : List D) (ρ ρ' : Sls), bindTs ts ds ρ = some ρ' → ds.length = ts.length := by
        intro ts
        induction ts with
        | nil => intro ds ρ ρ' h; cases ds with
          | nil => rfl
          | cons _ _ => simp [bindTs] at h
        | cons t ts ih => intro ds ρ ρ' h; cases ds with
          | nil => simp [bindTs] at h
          | cons d ds =>
            simp only [bindTs] at h
            cases hq : bindT t d ρ with
            | none => rw [hq] at h; cases h
            | some ρ1 => rw [hq] at h; rw [List.length_cons, List.length_cons, ih ds ρ1 ρ' h]
      exact this ts ds ρ ρ' hb
    cases d <;> simp only [bindT, reduceCtorEq] at hb
    · cases r with
      | tup na hq rr => exact fin hq.t rr hb rfl
    · cases r with
      | pr na hq r1 r2 => exact fin hq (.cons r1 (.cons r2 .nil)) hb rfl
theorem g_unl {ts : List Tg} {k n : Nat} (hK : X.K = S.K) (hc : X.calm = true) (h : PGs X es (gDs S ts)) (hn : (assignEach es X.env).length = n) (hst : (assignEach es X.env).findIdx? (·.1) = none) (hl : ts.length = n) : PG X (.Tuple es k pos) (gD S (.l ts)) :=
  (pg_unl hc h hn hst).mono fun v σ H Q ⟨Γ, F, H0, ρ, ρ', δ, d, hS, R, r, hb, q⟩ => by
    cases d <;> simp only [bindT, reduceCtorEq] at hb
    cases r with
    | lst na hq rr =>
      refine ⟨_, _, rfl, SqL.of hq, ?_, Γ, F, H0, ρ, ρ', δ, _, hS, R, rr, hb, fun σ' R' c o => q σ' R' (by simpa [slT] using c) o⟩
      rw [← rr.length, ← hl]
      have : ∀ (ts : List Tg) (ds : List D) (ρ ρ' : Sls), bindTs ts ds ρ = some ρ' → ds.length = ts.length := by
        intro ts
        induction ts with
        | nil => intro ds ρ ρ' h; cases ds with
          | nil => rfl
          | cons _ _ => simp [bindTs] at h
        | cons t ts ih => intro ds ρ ρ' h; cases ds with
          | nil => simp [bindTs] at h
          | cons d ds =>
            simp only [bindTs] at h
            cases hq : bindT t d ρ with
            | none => rw [hq] at h; cases h
            | some ρ1 => rw [hq] at h; rw [List.length_cons, List.length_cons, ih ds ρ1 ρ' h]
      exact this ts _ ρ ρ' hb
end
end SG

set_option Elab.async false
set_option linter.all false
set_option maxRecDepth 100000
set_option maxHeartbeats 4000000
namespace SG
open PySem PySem.Spec L2
open PyProof.Rows hiding St
open Sem (wp)
/-! ### enumerate of a tuple -/
section
open AutoSeq1 (wpAny_loadPart')
theorem meets_enum1 {v : Value} {o : Obj} {G : Heap → Prop} (B : Begins v o G) :
    Meets (Builtin.«enumerate.__new__» ⟨[.type "enumerate", v], []⟩) (fun _ R s => G s.heap ∧
      R (.ok (.ret (.ref (s.heap.push o).objs.size))) ⟨(s.heap.push o).push { cls := .type "enumerate", data := .fields #[.none, .bool false, .ref s.heap.objs.size, rawInt 0, .none, .none] }, s.gens, s.drawn, s.toks, s.os⟩) :=
  .of_wp fun prog w A R s h => by
    obtain ⟨hp, g, d, tk, os⟩ := s
    obtain ⟨hg, h⟩ := h
    have hsub := sub_enumerate
    have it : ∀ {A' : Around} {E : Value → Shared → Prop} {Q : Value → Shared → Prop}, Q (.ref hp.objs.size) ⟨hp.push o, g, d, tk, os⟩ → wpAny (model prog w) A' (pyIter v) Q E ⟨hp, g, d, tk, os⟩ := fun q => B.iter prog w _ _ _ _ hg q
    wp_walk using it
    refine wpAny_stack_any fun _ => wpAny_pure ?_
    split
    · rename_i cl _ _ _ _ _
      rcases hb : (cl == Value.type "enumerate") with _ | _ <;> (wp_walk using it; exact ⟨_, rfl, h⟩)
    · wp_walk using it
      exact ⟨_, rfl, h⟩
end
section
variable {prog : Program} {w : World} {A : Around} {E : Value → Shared → Prop} {s : Shared}
theorem enum1 {v : Value} {o : Obj} {G : Heap → Prop} {Q : Value → Shared → Prop} (B : Begins v o G) (hg : G s.heap)
    (k : ∀ h', IsEnum h' (s.heap.objs.size + 1) s.heap.objs.size 0 .none → h'.get? s.heap.objs.size = some o → (∀ b u, s.heap.get? b = some u → h'.get? b = some u) → Q (.ref (s.heap.objs.size + 1)) { s with heap := h' }) :
    wpAny (model prog w) A (call (.type "enumerate") [v]) Q E s := by
  refine callType_new F.called_enumerate (by decide) (F.typeCall_enumerate_1 _) (F.newCall_enumerate_1 _) (fun _ => F.args_object_init_2 _ _) F.entry_enumerate_new (meets_enum1 B) ⟨hg, ?_⟩
  have z1 : (s.heap.push o).objs.size = s.heap.objs.size + 1 := Heap.size_push ..
  have e1 := Heap.get?_push_size (s.heap.push o) (o := { cls := .type "enumerate", data := .fields #[.none, .bool false, .ref s.heap.objs.size, rawInt 0, .none, .none] }) rfl
  rw [z1] at e1
  show _ ∧ _
  rw [z1]
  exact ⟨⟨_, e1, rfl⟩, k _ e1 (Heap.get?_push_of_some _ (Heap.get?_push_size _ B.free)) fun b u q => Heap.get?_push_of_some _ (Heap.get?_push_of_some _ q)⟩
end
/-- the tuple at a, each item in a new pair -/
def IteT (K : PySem.W.Frag) (a : Addr) : It where
  go i H := ∃ (xs : List V) (x : V), SqT K H a xs ∧ xs[i]? = some x
  yld i H v H' := ∃ T x, v = .ref T ∧ H T = none ∧ H' = upd H T (.tup [.int (i : Nat), x]) ∧ ∀ xs, SqT K H a xs → xs[i]? = some x
  stop i H := ∃ xs : List V, SqT K H a xs ∧ xs.length = i
theorem turn_enumT {P : Program} {w : World} {K : PySem.W.Frag} {elts : List Expr} {n : Nat} {q : Pos} (a e it : Addr) :
    Turn P w K (.Tuple elts n q) (IteT K a) [e, it] e (fun i h => (∃ old, IsEnum h e it ((i : Nat) : Int) old) ∧ h.IsTupleIter it a i ∧ e ≠ it ∧ it ≠ a ∧ e ≠ a) where
  mem := List.mem_cons_self
  obj := fun i h ⟨⟨old, he⟩, ⟨o, ho, _, hd⟩, _⟩ b hb => by
    rcases List.mem_cons.mp hb with rfl | hb
    · exact ⟨_, he, fun _ z => nomatch z⟩
    · rw [List.mem_singleton.mp hb]
      exact ⟨o, ho, fun _ z => by rw [hd] at z; cases z⟩
  keep := fun i h h' ⟨⟨old, he⟩, hi, n⟩ k => ⟨⟨old, k e List.mem_cons_self _ he⟩, hi.at fun o z => k it (List.mem_cons_of_mem _ List.mem_cons_self) o z, n⟩
  item := by
    rintro X rfl rfl rfl hc i pins s σ H E I hf ⟨⟨old, he⟩, hit, n1, n2, n3⟩ ⟨xs, x, hq, hx⟩
    obtain ⟨its, rv, p, hz⟩ := I.tuple hq
    obtain ⟨u, hu, ru⟩ := rv.get hx
    have p' : s.heap.IsTuple a its.toArray := p
    have l1 : e < s.heap.objs.size := Heap.lt_size he
    have l2 : it < s.heap.objs.size := by obtain ⟨_, z, _⟩ := hit; exact Heap.lt_size z
    have hi : i < its.toArray.size := by
      have := List.getElem?_eq_some_iff.mp hu
      simpa using this.1
    refine wpAny_pyNext_enum_itemC (Draws.tuple (prog := X.prog) (w := X.w) (A := X.A.in1) (show X.A.in1.handled = none from I.ok.hd hc) it a (Ne.symm n2) its.toArray) he ⟨hit, p'⟩ hi n1 (by simp [n1, n3]) fun y h' tk hy ho hs hT hsz hk => ?_
    have ey : y = u := by
      have : its.toArray[i]? = some u := by simpa using hu
      rw [this] at hy
      exact (Option.some.inj hy).symm
    subst ey
    refine ⟨_, rfl, wpAny_letOwnedTupleGo_enum ho fun h2 he2 sb => ?_⟩
    have hT2 := (sb.2 _ (Nat.ne_of_gt l1)).trans hT
    have nw : ObjOk X.prog X.w (upd H s.heap.objs.size (.tup [.int (i : Nat), x])) h2 s.heap.objs.size (.tup [.int (i : Nat), x]) :=
      ⟨show 2 ≤ sizeLine by decide, _, .cons ⟨_, rfl⟩ (.cons ru .nil), ⟨_, hT2, rfl, _, rfl⟩⟩
    have I1 := I.turnedNew (t' := tk + 1) (h' := h2) (ch := [e, it]) (fun b ob hb z => (sb.2 b fun z => hb (by simp [z])).trans (hk b ob (fun z => hb (by simp [z])) (fun z => hb (by simp [z])) z)) hf (Nat.le_refl _) nw
    refine ⟨.ref s.heap.objs.size, _, I1, rfl, ⟨_, x, rfl, I.hok.fresh (Nat.le_refl _), rfl, fun ys hy => by rw [I.tuple_inj hy hq]; exact hx⟩, ⟨⟨y, ?_⟩, hs.1.at fun o z => (sb.2 it (Ne.symm n1)).trans z, n1, n2, n3⟩, fun b hb => ?_⟩
    · rw [show ((i + 1 : Nat) : Int) = (i : Int) + 1 by omega]
      exact he2
    · have lb : b < s.heap.objs.size := by
        rcases List.mem_cons.mp hb with rfl | hb
        · exact l1
        · rw [List.mem_singleton.mp hb]; exact l2
      rw [upd_ne (Nat.ne_of_lt lb)]
      exact (hf b hb).1
  done := by
    rintro X rfl rfl rfl hc i pins s σ H E I hf ⟨⟨old, he⟩, hit, n1, n2, n3⟩ ⟨xs, hq, hx⟩
    obtain ⟨its, rv, p, hz⟩ := I.tuple hq
    have p' : s.heap.IsTuple a its.toArray := p
    obtain ⟨f0, f1, f2, f3, f4, f5⟩ := hf it (List.mem_cons_of_mem _ List.mem_cons_self)
    have hl := rv.length
    have hi : its.toArray.size = i := by rw [List.size_toArray]; omega
    exact wpAny_pyNext_enum_endD (Draws.tuple (A := X.A.in1) (show X.A.in1.handled = none from I.ok.hd hc) it a (Ne.symm n2) its.toArray) he (hi ▸ ⟨hit, p'⟩) fun h' eb => ⟨rfl, I.turned (t' := s.toks) (fun b o hb z => eb b o hb z) f0 f1 f3 f4 f5⟩
  self := fun A i s Q E ⟨⟨_, he⟩, _⟩ h => wpAny_pyIter_enum he h
end SG

set_option Elab.async false
set_option linter.all false
set_option maxRecDepth 100000
set_option maxHeartbeats 4000000
namespace SG
open PySem PySem.Spec L2
open PyProof.Rows hiding St
def iEnumT (K : PySem.W.Frag) (ta : TA) : TI := fun σ H R => ta σ H fun vs H1 => ∃ a xs, vs = [.ref a] ∧ SqT K H1 a xs ∧ R (IteT K a) H1
theorem pi_enumT {X : Cx} {e : Expr} {ta : TA} {p pos tpos : Pos} {elts : List Expr} {n : Nat} (hg : Gl X "enumerate") (hm : X.mg "enumerate" = none) (ha : PA X [e] ta) (hs : starEach [e] X.env = [(false, eval e X.env)]) :
    PI X (.Tuple elts n tpos) (.Call (.Name "enumerate" p) [e] [] pos) (iEnumT X.K ta) := by
  refine ⟨fun pins s σ H R I h => Call_ (ld_blt I hg hm boot_enumerate (PyProof.Rows.callWith_type1 (thn (ha.run pos pins s σ H _ I h) ?_) hs rfl))⟩
  rintro us s1 ⟨vs, H1, I1, r1, a, xs, rfl, hq, q⟩
  rcases r1 with _ | ⟨r, rr⟩
  cases rr
  cases r
  obtain ⟨its, rv, p', hz⟩ := I1.tuple hq
  have p1 : s1.heap.IsTuple a its.toArray := p'
  have la : a < s1.heap.objs.size := by obtain ⟨_, z, _⟩ := p1; exact Heap.lt_size z
  refine enum1 (begins_tuple a its.toArray) p1 fun h' he hit hk => wpAny_pyIter_enum he ?_
  refine ⟨s1.heap.objs.size + 1, [s1.heap.objs.size + 1, s1.heap.objs.size], _, _, H1, rfl, I1.kept (t' := s1.toks) hk, turn_enumT a (s1.heap.objs.size + 1) s1.heap.objs.size,
    ⟨⟨.none, he⟩, ⟨_, hit, rfl, rfl⟩, Nat.succ_ne_self _, Nat.ne_of_gt la, Nat.ne_of_gt (Nat.lt_succ_of_lt la)⟩, fun b hb => ?_, q⟩
  have lb : s1.heap.objs.size ≤ b := by
    rcases List.mem_cons.mp hb with rfl | hb
    · exact Nat.le_succ _
    · rw [List.mem_singleton.mp hb]; exact Nat.le_refl _
  exact I1.fpOk lb (I1.hok.fresh lb)
/-! ### with what is written kept apart -/
def nwIt (K : PySem.W.Frag) (J : It) : It := ⟨J.go, fun i H x H' => J.yld i H x H' ∧ NW K H', J.stop⟩
theorem turn_nw {P : Program} {w : World} {K : PySem.W.Frag} {tg : Expr} {J : It} {fp : List Addr} {it : Addr} {tn : Nat → Heap → Prop} (T : Turn P w K tg J fp it tn) : Turn P w K tg (nwIt K J) fp it tn where
  mem := T.mem
  obj := T.obj
  keep := T.keep
  item := fun X hP hw hK hc i pins s σ H E I hf st hg => thn (T.item X hP hw hK hc i pins s σ H E I hf st hg) fun r s1 ⟨u, hr, q⟩ => ⟨u, hr, thn q fun _ s2 ⟨x, H', I', rv, y, t, n⟩ => ⟨x, H', I', rv, ⟨y, hK ▸ inv_nw I'⟩, t, n⟩⟩
  done := T.done
  self := T.self
section
variable {X : Cx} {tg e a b : Expr} {wi : TI}
theorem pi_nw (h : PI X tg e wi) : PI X tg e (fun σ H R => wi σ H fun J H' => NW X.K H' → R (nwIt X.K J) H') :=
  ⟨fun pins s σ H R I q => thn (h.run pins s σ H _ I q) fun v s1 q => thn q fun u s2 ⟨it, fp, tn, J, H', e, I', T, t0, f, q⟩ => ⟨it, fp, tn, _, H', e, I', turn_nw T, t0, f, q (inv_nw I')⟩⟩
theorem pi_alt (h : ∀ σ H R, wi σ H R → ∃ w', PI X tg e w' ∧ w' σ H R) : PI X tg e wi := ⟨fun pins s σ H R I q => let ⟨_, p, q'⟩ := h σ H R q; p.run pins s σ H R I q'⟩
end
/-! ### what is walked -/
structure WkD (Γ : Gm) (O S : Addr → Prop) (H1 : Hp) (J : It) (ds : List D) : Prop where
  ex : ∃ (G : Hp → Prop) (Y : Nat → Hp → V → Hp → Prop), Walk J ds.length G Y ∧ (∀ H, Ext S H1 H → G H) ∧
    ∀ i H x H' d O', Ext S H1 H → (∀ a, Trk Γ.K H1 a → ¬ O a → ¬ O' a) → (∀ a, O' a → ∃ o, H a = some o) → Y i H x H' → ds[i]? = some d → Same H H' ∧ NW Γ.K H' ∧ RelD Γ H' O' d x
theorem same_refl (H : Hp) : Same H H := fun _ _ h => h
section
variable {Γ : Gm} {O S S' : Addr → Prop} {H1 : Hp} {J : It} {ds es : List D} {a b : Addr} {xs ys : List V}
theorem WkD.mono (h : WkD Γ O S H1 J ds) (k : ∀ a, S' a → S a) : WkD Γ O S' H1 J ds := by
  obtain ⟨G, Y, w, g, y⟩ := h.ex
  exact ⟨G, Y, w, fun H e => g H (e.mono k), fun i H x H' d O' e => y i H x H' d O' (e.mono k)⟩
theorem walk_nw {K : PySem.W.Frag} {n : Nat} {G : Hp → Prop} {Y : Nat → Hp → V → Hp → Prop} (w : Walk J n G Y) : Walk (nwIt K J) n G (fun i H x H' => Y i H x H' ∧ NW K H') :=
  ⟨w.goes, w.stops, fun i H x H' h g y => ⟨w.yields i H x H' h g y.1, y.2⟩⟩
theorem wk_list (hS : ∀ a, S a → O a) (n : ¬ S a) (h : SqL Γ.K H1 a xs) (r : RelDs Γ H1 O ds xs) : WkD Γ O S H1 (nwIt Γ.K (Itl Γ.K a)) ds := by
  refine ⟨_, _, r.length ▸ walk_nw walk_list, fun H e => sqL_ext e n h, fun i H x H' d O' e w t y hd => ?_⟩
  obtain ⟨⟨rfl, hx⟩, n⟩ := y
  obtain ⟨v, hv, rv⟩ := r.get hd
  rw [hx] at hv
  cases hv
  exact ⟨same_refl _, n, rv.mv (e.mono hS) w⟩
theorem wk_tup (hS : ∀ a, S a → O a) (n : ¬ S a) (h : SqT Γ.K H1 a xs) (r : RelDs Γ H1 O ds xs) : WkD Γ O S H1 (nwIt Γ.K (Itt Γ.K a)) ds := by
  refine ⟨_, _, r.length ▸ walk_nw walk_tup, fun H e => sqT_ext e n h, fun i H x H' d O' e w t y hd => ?_⟩
  obtain ⟨⟨rfl, hx⟩, n⟩ := y
  obtain ⟨v, hv, rv⟩ := r.get hd
  rw [hx] at hv
  cases hv
  exact ⟨same_refl _, n, rv.mv (e.mono hS) w⟩
def rngD (lo : Int) (n : Nat) : List D := (List.range n).map fun (i : Nat) => .int (lo + (i : Int))
theorem wk_rng {lo : Int} {n : Nat} : WkD Γ O S H1 (nwIt Γ.K (Itr lo n)) (rngD lo n) := by
  refine ⟨_, _, by rw [show (rngD lo n).length = n by simp [rngD]]; exact walk_nw walk_range, fun H e => trivial, fun i H x H' d O' e w t y hd => ?_⟩
  obtain ⟨⟨rfl, rfl⟩, n⟩ := y
  simp only [rngD, List.getElem?_map] at hd
  cases hr : (List.range _)[i]? with
  | none => rw [hr] at hd; cases hd
  | some j =>
    rw [hr] at hd
    obtain ⟨h1, h2⟩ := List.getElem?_eq_some_iff.mp hr
    rw [List.getElem_range] at h2
    subst h2
    cases hd
    exact ⟨same_refl _, n, .int _⟩
def rngC (lo c : Int) (n : Nat) : List D := (List.range n).map fun (i : Nat) => .int (lo + (i : Int) * c)
theorem wk_rngC {lo c : Int} {n : Nat} : WkD Γ O S H1 (nwIt Γ.K (Itc lo c n)) (rngC lo c n) := by
  refine ⟨_, _, by rw [show (rngC lo c n).length = n by simp [rngC]]; exact walk_nw walk_rangeC, fun H e => trivial, fun i H x H' d O' e w t y hd => ?_⟩
  obtain ⟨⟨rfl, rfl⟩, n⟩ := y
  simp only [rngC, List.getElem?_map] at hd
  cases hr : (List.range _)[i]? with
  | none => rw [hr] at hd; cases hd
  | some j =>
    rw [hr] at hd
    obtain ⟨h1, h2⟩ := List.getElem?_eq_some_iff.mp hr
    rw [List.getElem_range] at h2
    subst h2
    cases hd
    exact ⟨same_refl _, n, .int _⟩
def chrD (z : Str) : List D := z.cps.toList.map fun c => .str ⟨#[c]⟩
theorem wk_str {z : Str} : WkD Γ O S H1 (nwIt Γ.K (Its z)) (chrD z) := by
  refine ⟨_, _, (show (chrD z).length = z.cps.size by simp [chrD]) ▸ walk_nw walk_str, fun H e => trivial, fun i H x H' d O' e w t y hd => ?_⟩
  obtain ⟨⟨rfl, c, hc, rfl⟩, n⟩ := y
  simp only [chrD, List.getElem?_map, Array.getElem?_toList, hc] at hd
  cases hd
  exact ⟨same_refl _, n, .str _⟩
theorem pair_rel {H : Hp} {T : Addr} {x y : V} {d e : D} (hT : H T = none) (t : ∀ a, O a → ∃ o, H a = some o) (r : RelD Γ H O d x) (q : RelD Γ H O e y) : RelD Γ (upd H T (.tup [x, y])) O (.pr d e) (.ref T) := by
  have E : Ext O H (upd H T (.tup [x, y])) := Ext.new hT
  exact .pr (fun z => by obtain ⟨o, e⟩ := t T z; rw [hT] at e; cases e) (.inl (Rd.of upd_same)) (r.ext E) (q.ext E)
def enumD (ds : List D) : List D := ds.zipIdx.map fun p => .pr (.int (p.2 : Nat)) p.1
theorem enum_len (ds : List D) : (enumD ds).length = ds.length := by simp [enumD]
theorem enum_at {i : Nat} {d : D} (h : (enumD ds)[i]? = some d) : ∃ x, ds[i]? = some x ∧ d = .pr (.int (i : Nat)) x := by
  simp only [enumD, List.getElem?_map, List.getElem?_zipIdx, Option.map_eq_some_iff] at h
  obtain ⟨p, ⟨x, hx, rfl⟩, rfl⟩ := h
  exact ⟨x, hx, by simp⟩
theorem wk_enumL (hS : ∀ a, S a → O a) (n : ¬ S a) (h : SqL Γ.K H1 a xs) (r : RelDs Γ H1 O ds xs) : WkD Γ O S H1 (nwIt Γ.K (Ite Γ.K a)) (enumD ds) := by
  refine ⟨_, _, (show (enumD ds).length = xs.length by rw [enum_len, r.length]) ▸ walk_nw walk_enum, fun H e => sqL_ext e n h, fun i H x H' d O' e w t y hd => ?_⟩
  obtain ⟨⟨T, x, y, rfl, hT, rfl, hx, hy⟩, n⟩ := y
  obtain ⟨d', hd', rfl⟩ := enum_at hd
  obtain ⟨v, hv, rv⟩ := r.get hd'
  cases hx
  cases hv.symm.trans hy
  exact ⟨same_new hT, n, pair_rel hT t (.int _) (rv.mv (e.mono hS) w)⟩
theorem walk_enumT {K : PySem.W.Frag} : Walk (IteT K a) xs.length (fun H => SqT K H a xs) (YPair (fun i => some (.int (i : Nat))) (fun i => xs[i]?)) where
  goes := fun i H h q => ⟨xs, xs[i], q, List.getElem?_eq_getElem h⟩
  stops := fun H q => ⟨xs, q, rfl⟩
  yields := fun i H x H' h q ⟨T, y, e1, e2, e3, k⟩ => ⟨T, _, y, e1, e2, e3, rfl, k xs q⟩
theorem wk_enumT (hS : ∀ a, S a → O a) (n : ¬ S a) (h : SqT Γ.K H1 a xs) (r : RelDs Γ H1 O ds xs) : WkD Γ O S H1 (nwIt Γ.K (IteT Γ.K a)) (enumD ds) := by
  refine ⟨_, _, (show (enumD ds).length = xs.length by rw [enum_len, r.length]) ▸ walk_nw walk_enumT, fun H e => sqT_ext e n h, fun i H x H' d O' e w t y hd => ?_⟩
  obtain ⟨⟨T, x, y, rfl, hT, rfl, hx, hy⟩, n⟩ := y
  obtain ⟨d', hd', rfl⟩ := enum_at hd
  obtain ⟨v, hv, rv⟩ := r.get hd'
  cases hx
  cases hv.symm.trans hy
  exact ⟨same_new hT, n, pair_rel hT t (.int _) (rv.mv (e.mono hS) w)⟩
def zipD (ds es : List D) : List D := (ds.zip es).map fun p => .pr p.1 p.2
theorem zip_at {i : Nat} {d : D} (h : (zipD ds es)[i]? = some d) : ∃ x y, ds[i]? = some x ∧ es[i]? = some y ∧ d = .pr x y := by
  simp only [zipD, List.getElem?_map, Option.map_eq_some_iff] at h
  obtain ⟨⟨x, y⟩, hp, rfl⟩ := h
  obtain ⟨h1, h2⟩ := List.getElem?_zip_eq_some.mp hp
  exact ⟨x, y, h1, h2, rfl⟩
theorem zip_len (r : RelDs Γ H1 O ds xs) (q : RelDs Γ H1 O es ys) : (zipD ds es).length = min xs.length ys.length := by
  rw [zipD, List.length_map, List.length_zip, r.length, q.length]
theorem walk_zipT {K : PySem.W.Frag} {n : Nat} (hn : n = min xs.length ys.length) : Walk (RZ.ItzT K a b) n (fun H => SqT K H a xs ∧ SqT K H b ys) (YPair (fun i => xs[i]?) (fun i => ys[i]?)) where
  goes := fun i H h q => ⟨xs, ys, xs[i]'(by omega), ys[i]'(by omega), q.1, q.2, List.getElem?_eq_getElem _, List.getElem?_eq_getElem _⟩
  stops := fun H q => ⟨xs, ys, q.1, q.2, by omega⟩
  yields := fun i H x H' h q ⟨T, x', y, e1, e2, e3, k1, k2⟩ => ⟨T, x', y, e1, e2, e3, k1 xs q.1, k2 ys q.2⟩
theorem wk_zipL (hS : ∀ a, S a → O a) (n : ¬ S a) (m : ¬ S b) (h : SqL Γ.K H1 a xs) (k : SqL Γ.K H1 b ys) (r : RelDs Γ H1 O ds xs) (q : RelDs Γ H1 O es ys) : WkD Γ O S H1 (nwIt Γ.K (Itz Γ.K a b)) (zipD ds es) := by
  refine ⟨_, _, walk_nw (walk_zip (zip_len r q)), fun H e => ⟨sqL_ext e n h, sqL_ext e m k⟩, fun i H x H' d O' e w t y hd => ?_⟩
  obtain ⟨⟨T, x, y, rfl, hT, rfl, hx, hy⟩, n⟩ := y
  obtain ⟨d1, d2, h1, h2, rfl⟩ := zip_at hd
  obtain ⟨v, hv, rv⟩ := r.get h1
  obtain ⟨u, hu, ru⟩ := q.get h2
  cases hv.symm.trans hx
  cases hu.symm.trans hy
  exact ⟨same_new hT, n, pair_rel hT t (rv.mv (e.mono hS) w) (ru.mv (e.mono hS) w)⟩
theorem wk_zipT (hS : ∀ a, S a → O a) (n : ¬ S a) (m : ¬ S b) (h : SqT Γ.K H1 a xs) (k : SqT Γ.K H1 b ys) (r : RelDs Γ H1 O ds xs) (q : RelDs Γ H1 O es ys) : WkD Γ O S H1 (nwIt Γ.K (RZ.ItzT Γ.K a b)) (zipD ds es) := by
  refine ⟨_, _, walk_nw (walk_zipT (zip_len r q)), fun H e => ⟨sqT_ext e n h, sqT_ext e m k⟩, fun i H x H' d O' e w t y hd => ?_⟩
  obtain ⟨⟨T, x, y, rfl, hT, rfl, hx, hy⟩, n⟩ := y
  obtain ⟨d1, d2, h1, h2, rfl⟩ := zip_at hd
  obtain ⟨v, hv, rv⟩ := r.get h1
  obtain ⟨u, hu, ru⟩ := q.get h2
  cases hv.symm.trans hx
  cases hu.symm.trans hy
  exact ⟨same_new hT, n, pair_rel hT t (rv.mv (e.mono hS) w) (ru.mv (e.mono hS) w)⟩
end
end SG

set_option Elab.async false
set_option linter.all false
set_option maxRecDepth 100000
set_option maxHeartbeats 4000000
namespace SG
open PySem PySem.Spec L2
open PyProof.Rows hiding St
abbrev DI := Ctx → Sls → M (List D)
def selS (st : Bool) (Γ : Gm) (O : Addr → Prop) (a : Addr) : Prop := Γ.DR a ∨ (st = true ∧ O a)
def rdI (st : Bool) (S : Sta) (C : Ctx) (E : XK) (t : DI) : TI := fun σ H R => ∃ (Γ : Gm) (F : Addr → Prop) (H0 : Hp) (ρ : Sls) (δ : Dr), Γ.toSta = S ∧ Rel Γ F H0 ρ δ σ H ∧
  OutG Γ H E (fun ds _ H' => ∀ J, WkD Γ (Oall F ρ σ) (selS st Γ (Oall F ρ σ)) H' J ds → R J H') (t C ρ δ)
def itSem : D → Option (List D)
  | .lst ds => some ds
  | .tup ds => some ds
  | .str z => some (chrD z)
  | _ => none
def dIt (t : DE) : DI := fun C ρ => do
  let d ← t C ρ
  M.opt (itSem d)
def sRng1 : D → Option (List D)
  | .int j => if -(2 ^ 62) ≤ j ∧ j < 2 ^ 62 then some (rngD 0 j.toNat) else none
  | _ => none
def dRng1 (a : DE) : DI := fun C ρ => do
  let x ← a C ρ
  M.opt (sRng1 x)
def sRng2 : D → D → Option (List D)
  | .int i, .int j => if -(2 ^ 62) ≤ i ∧ i < 2 ^ 62 ∧ -(2 ^ 62) ≤ j ∧ j < 2 ^ 62 then some (rngD i (j - i).toNat) else none
  | _, _ => none
def dRng2 (a b : DE) : DI := fun C ρ => do
  let x ← a C ρ
  let y ← b C ρ
  M.opt (sRng2 x y)
def sEnum : D → Option (List D)
  | .lst ds => some (enumD ds)
  | .tup ds => some (enumD ds)
  | _ => none
def dEnum (a : DE) : DI := fun C ρ => do
  let x ← a C ρ
  M.opt (sEnum x)
def sZip : D → D → Option (List D)
  | .lst ds, .lst es => some (zipD ds es)
  | .tup ds, .tup es => some (zipD ds es)
  | _, _ => none
def dZip (a b : DE) : DI := fun C ρ => do
  let x ← a C ρ
  let y ← b C ρ
  M.opt (sZip x y)
theorem selS_le {st : Bool} {Γ : Gm} {O : Addr → Prop} (h : ∀ a, Γ.DR a → O a) : ∀ a, selS st Γ O a → O a := fun a z => z.elim (h a) (·.2)
theorem selS_not {st : Bool} {Γ : Gm} {O : Addr → Prop} (h : ∀ a, Γ.DR a → O a) {a : Addr} (n : ¬ O a) : ¬ selS st Γ O a := fun z => n (selS_le h a z)
section
variable {S : Sta} {C : Ctx} {E : XK} {X : Cx} {tg e a b : Expr} {es : List Expr} {t ta tb : DE} {d : DI} {pos p tpos : Pos} {elts : List Expr} {n : Nat}
theorem i_weak (h : PI X tg e (rdI true S C E d)) : PI X tg e (rdI false S C E d) := pi_alt fun σ H R ⟨Γ, F, H0, ρ, δ, hS, Rl, o⟩ =>
  ⟨_, h, Γ, F, H0, ρ, δ, hS, Rl, o.imp fun ds δ' H' A q J w => q J (w.mono fun a z => z.elim .inl fun z => nomatch z.1)⟩
theorem i_val (hK : X.K = S.K) (h : PE X e (rdE S C E t)) : PI X tg e (rdI true S C E (dIt t)) := pi_alt fun σ H R ⟨Γ, F, H0, ρ, δ, hS, Rl, o⟩ => by
  subst hS
  have k := o.bind
  cases hq : t C ρ δ with
  | fail => rw [hq] at k; exact k.elim
  | exc c as δ1 =>
    rw [hq] at k
    exact ⟨_, pi_list h, Γ, F, H0, ρ, δ, rfl, Rl, by rw [hq]; exact k⟩
  | ok d δ1 =>
    rw [hq] at k
    cases d with
    | lst ds =>
      refine ⟨_, pi_nw (pi_list h), Γ, F, H0, ρ, δ, rfl, Rl, ?_⟩
      rw [hq]
      intro H1 A v r
      obtain ⟨ds', e', q⟩ := (k H1 A).opt
      cases e'
      have R1 := Rl.aft A
      cases r with
      | lst na hl rs => exact ⟨_, rfl, ⟨_, SqL.of hl⟩, fun _ => hK ▸ q H1 R1.refl _ (wk_list (selS_le R1.dO) (selS_not R1.dO na) (SqL.of hl) rs)⟩
    | tup ds =>
      refine ⟨_, pi_nw (pi_tup h), Γ, F, H0, ρ, δ, rfl, Rl, ?_⟩
      rw [hq]
      intro H1 A v r
      obtain ⟨ds', e', q⟩ := (k H1 A).opt
      cases e'
      have R1 := Rl.aft A
      cases r with
      | tup na hl rs => exact ⟨_, rfl, ⟨_, hK ▸ hl.t⟩, fun _ => hK ▸ q H1 R1.refl _ (wk_tup (selS_le R1.dO) (selS_not R1.dO na) hl.t rs)⟩
    | str z =>
      refine ⟨_, pi_nw (pi_str h), Γ, F, H0, ρ, δ, rfl, Rl, ?_⟩
      rw [hq]
      intro H1 A v r
      obtain ⟨ds', e', q⟩ := (k H1 A).opt
      cases e'
      have R1 := Rl.aft A
      cases r
      exact ⟨_, rfl, fun _ => hK ▸ q H1 R1.refl _ wk_str⟩
    | _ =>
      refine ⟨_, pi_nw (pi_list h), Γ, F, H0, ρ, δ, rfl, Rl, ?_⟩
      rw [hq]
      intro H1 A v r
      obtain ⟨ds', e', q⟩ := (k H1 A).opt
      cases e'
/-- what is looked at, the container perhaps a slot's own -/
theorem i_peek (hK : X.K = S.K) (h : PE X e (rdP S C E t)) : PI X tg e (rdI false S C E (dIt t)) := pi_alt fun σ H R ⟨Γ, F, H0, ρ, δ, hS, Rl, o⟩ => by
  subst hS
  have k := o.bind
  cases hq : t C ρ δ with
  | fail => rw [hq] at k; exact k.elim
  | exc c as δ1 =>
    rw [hq] at k
    exact ⟨_, pi_list h, Γ, F, H0, ρ, δ, rfl, Rl, by rw [hq]; exact k⟩
  | ok d δ1 =>
    rw [hq] at k
    cases d with
    | lst ds =>
      refine ⟨_, pi_nw (pi_list h), Γ, F, H0, ρ, δ, rfl, Rl, ?_⟩
      rw [hq]
      intro H1 A v r
      obtain ⟨ds', e', q⟩ := (k H1 A).opt
      cases e'
      have R1 := Rl.aft A
      rcases r with r | ⟨a, rfl, nd, vs, hl, rs⟩
      · cases r with
        | lst na hl rs => exact ⟨_, rfl, ⟨_, SqL.of hl⟩, fun _ => hK ▸ q H1 R1.refl _ (wk_list (selS_le R1.dO) (selS_not R1.dO na) (SqL.of hl) rs)⟩
      · exact ⟨_, rfl, ⟨_, SqL.of hl⟩, fun _ => hK ▸ q H1 R1.refl _ (wk_list (selS_le R1.dO) (fun z => z.elim nd fun z => nomatch z.1) (SqL.of hl) rs)⟩
    | tup ds =>
      refine ⟨_, pi_nw (pi_tup h), Γ, F, H0, ρ, δ, rfl, Rl, ?_⟩
      rw [hq]
      intro H1 A v r
      obtain ⟨ds', e', q⟩ := (k H1 A).opt
      cases e'
      have R1 := Rl.aft A
      rcases r with r | ⟨a, rfl, nd, hf⟩
      · cases r with
        | tup na hl rs => exact ⟨_, rfl, ⟨_, hK ▸ hl.t⟩, fun _ => hK ▸ q H1 R1.refl _ (wk_tup (selS_le R1.dO) (selS_not R1.dO na) hl.t rs)⟩
      · exact hf.elim
    | str z =>
      refine ⟨_, pi_nw (pi_str h), Γ, F, H0, ρ, δ, rfl, Rl, ?_⟩
      rw [hq]
      intro H1 A v r
      obtain ⟨ds', e', q⟩ := (k H1 A).opt
      cases e'
      have R1 := Rl.aft A
      rcases r with r | ⟨a, rfl, nd, hf⟩
      · cases r
        exact ⟨_, rfl, fun _ => hK ▸ q H1 R1.refl _ wk_str⟩
      · exact hf.elim
    | _ =>
      refine ⟨_, pi_nw (pi_list h), Γ, F, H0, ρ, δ, rfl, Rl, ?_⟩
      rw [hq]
      intro H1 A v r
      obtain ⟨ds', e', q⟩ := (k H1 A).opt
      cases e'
theorem i_rng1 (hK : X.K = S.K) (hg : Gl X "range") (hm : X.mg "range" = none) (hs : starEach [a] X.env = [(false, eval a X.env)]) (ha : PE X a (rdE S C E ta)) : PI X tg (.Call (.Name "range" p) [a] [] pos) (rdI true S C E (dRng1 ta)) :=
  pi_alt fun σ H R ⟨Γ, F, H0, ρ, δ, hS, Rl, o⟩ => ⟨_, pi_nw (pi_range1 hg hm (pa_cons ha pa_nil hs) hs), Γ, F, H0, ρ, δ, hS, Rl, o.bind.imp fun d δ1 H1 A o1 v r => by
    obtain ⟨ds, e, q⟩ := o1.opt
    cases r with
    | int i =>
      simp only [sRng1] at e
      split at e
      · rename_i hi
        cases e
        exact ⟨i, rfl, hi.1, hi.2, fun _ => (hK.trans (congrArg Sta.K hS).symm) ▸ q H1 (Rl.aft A).refl _ wk_rng⟩
      · cases e
    | _ => cases e⟩
theorem i_rng2 (hK : X.K = S.K) (hg : Gl X "range") (hm : X.mg "range" = none) (hs : starEach [a, b] X.env = [(false, eval a X.env), (false, eval b X.env)]) (hs2 : starEach [b] X.env = [(false, eval b X.env)]) (ha : PE X a (rdE S C E ta)) (hb : PE X b (rdE S C E tb)) :
    PI X tg (.Call (.Name "range" p) [a, b] [] pos) (rdI true S C E (dRng2 ta tb)) :=
  pi_alt fun σ H R ⟨Γ, F, H0, ρ, δ, hS, Rl, o⟩ => ⟨_, pi_nw (pi_range2 hg hm (pa_cons ha (pa_cons hb pa_nil hs2) (hs.trans (by rw [hs2]))) hs hs2), Γ, F, H0, ρ, δ, hS, Rl, o.bind.imp fun d δ1 H1 A o1 v r => ⟨Γ, F, H0, ρ, δ1, hS, Rl.aft A, o1.bind.imp fun d2 δ2 H2 A2 o2 v2 r2 => by
    obtain ⟨ds, e, q⟩ := o2.opt
    cases d <;> cases d2 <;> simp only [sRng2, reduceCtorEq] at e
    split at e
    · rename_i hi
      cases e
      cases r2
      have r' := r.ext (A2.ext.mono Rl.dO)
      cases r
      exact ⟨_, _, rfl, hi, fun _ => (hK.trans (congrArg Sta.K hS).symm) ▸ q H2 ((Rl.aft A).aft A2).refl _ wk_rng⟩
    · cases e⟩⟩
theorem i_enum (hK : X.K = S.K) (hg : Gl X "enumerate") (hm : X.mg "enumerate" = none) (hs : starEach [e] X.env = [(false, eval e X.env)]) (h : PE X e (rdE S C E t)) : PI X (.Tuple elts n tpos) (.Call (.Name "enumerate" p) [e] [] pos) (rdI true S C E (dEnum t)) := pi_alt fun σ H R ⟨Γ, F, H0, ρ, δ, hS, Rl, o⟩ => by
  subst hS
  have k := o.bind
  have ha := pa_cons h pa_nil hs
  cases hq : t C ρ δ with
  | fail => rw [hq] at k; exact k.elim
  | exc c as δ1 =>
    rw [hq] at k
    exact ⟨_, pi_enum hg hm ha hs, Γ, F, H0, ρ, δ, rfl, Rl, by rw [hq]; exact k⟩
  | ok d δ1 =>
    rw [hq] at k
    cases d with
    | lst ds =>
      refine ⟨_, pi_nw (pi_enum hg hm ha hs), Γ, F, H0, ρ, δ, rfl, Rl, ?_⟩
      rw [hq]
      intro H1 A v r
      obtain ⟨ds', e', q⟩ := (k H1 A).opt
      cases e'
      have R1 := Rl.aft A
      cases r with
      | lst na hl rs => exact ⟨_, _, rfl, SqL.of hl, fun _ => hK ▸ q H1 R1.refl _ (wk_enumL (selS_le R1.dO) (selS_not R1.dO na) (SqL.of hl) rs)⟩
    | tup ds =>
      refine ⟨_, pi_nw (pi_enumT hg hm ha hs), Γ, F, H0, ρ, δ, rfl, Rl, ?_⟩
      rw [hq]
      intro H1 A v r
      obtain ⟨ds', e', q⟩ := (k H1 A).opt
      cases e'
      have R1 := Rl.aft A
      cases r with
      | tup na hl rs => exact ⟨_, _, rfl, hK ▸ hl.t, fun _ => hK ▸ q H1 R1.refl _ (wk_enumT (selS_le R1.dO) (selS_not R1.dO na) hl.t rs)⟩
    | _ =>
      refine ⟨_, pi_nw (pi_enum hg hm ha hs), Γ, F, H0, ρ, δ, rfl, Rl, ?_⟩
      rw [hq]
      intro H1 A v r
      obtain ⟨ds', e', q⟩ := (k H1 A).opt
      cases e'
theorem i_zip (hK : X.K = S.K) (hg : Gl X "zip") (hm : X.mg "zip" = none) (hs : starEach [a, b] X.env = (false, eval a X.env) :: starEach [b] X.env) (hs2 : starEach [b] X.env = [(false, eval b X.env)]) (hp : (backTo pos (starEach [b] X.env)).any (·.1) = false) (ha : PE X a (rdE S C E ta)) (hb : PE X b (rdE S C E tb)) :
    PI X (.Tuple elts n tpos) (.Call (.Name "zip" p) [a, b] [] pos) (rdI true S C E (dZip ta tb)) :=
  pi_alt fun σ H R ⟨Γ, F, H0, ρ, δ, hS, Rl, o⟩ => ⟨_, pi_nw (RZ.pi_zipA hg hm (pa_cons ha (pa_cons hb pa_nil hs2) hs) hs hp), Γ, F, H0, ρ, δ, hS, Rl, o.bind.imp fun d δ1 H1 A o1 v r => ⟨Γ, F, H0, ρ, δ1, hS, Rl.aft A, o1.bind.imp fun d2 δ2 H2 A2 o2 v2 r2 => by
    subst hS
    obtain ⟨ds, e, q⟩ := o2.opt
    have R1 := (Rl.aft A).aft A2
    have r' := r.ext (A2.ext.mono Rl.dO)
    cases d <;> cases d2 <;> simp only [sZip, reduceCtorEq] at e
    · cases e
      cases r' with
      | tup na hl rs =>
        cases r2 with
        | tup nb hl2 rs2 => exact ⟨_, _, _, _, rfl, .inr ⟨hK ▸ hl.t, hK ▸ hl2.t, fun _ => hK ▸ q H2 R1.refl _ (wk_zipT (selS_le R1.dO) (selS_not R1.dO na) (selS_not R1.dO nb) hl.t hl2.t rs rs2)⟩⟩
    · cases e
      cases r' with
      | lst na hl rs =>
        cases r2 with
        | lst nb hl2 rs2 => exact ⟨_, _, _, _, rfl, .inl ⟨SqL.of hl, SqL.of hl2, fun _ => hK ▸ q H2 R1.refl _ (wk_zipL (selS_le R1.dO) (selS_not R1.dO na) (selS_not R1.dO nb) (SqL.of hl) (SqL.of hl2) rs rs2)⟩⟩⟩⟩
end
end SG

set_option Elab.async false
set_option linter.all false
set_option maxRecDepth 100000
set_option maxHeartbeats 4000000
namespace SG
open PySem PySem.Spec L2
open PyProof.Rows hiding St
/-! ### list comprehensions -/
def exF : XK := fun _ _ _ => False
def noX {α : Type} (m : M α) : M α := fun δ => match m δ with
  | .ok a δ' => .ok a δ'
  | _ => .fail
theorem noX_ok {α : Type} {m : M α} {δ δ' : Dr} {a : α} (h : noX m δ = .ok a δ') : m δ = .ok a δ' := by
  unfold noX at h
  split at h
  · rename_i h'; rw [h']; exact h
  · cases h
theorem noX_exc {α : Type} {m : M α} {δ δ' : Dr} {c : Nat} {as : List D} : noX m δ ≠ .exc c as δ' := by
  unfold noX
  split <;> simp
def wipeR (ρ : Sls) : List Nat → Sls
  | [] => ρ
  | v :: vs => (wipeR ρ vs).set v .no
def isOwn : Option Sl → Bool
  | some (.own _) => true
  | _ => false
def ownless (ρ : Sls) (vs : List Nat) : Bool := vs.all fun v => !isOwn ρ[v]?
theorem bind_ok {α β : Type} {m : M α} {f : α → M β} {δ δ2 : Dr} {b : β} (h : (m >>= f) δ = .ok b δ2) : ∃ a δ1, m δ = .ok a δ1 ∧ f a δ1 = .ok b δ2 := by
  have e : (m >>= f) δ = match m δ with
    | .ok a δ' => f a δ'
    | .exc c as δ' => .exc c as δ'
    | .fail => .fail := rfl
  rw [e] at h
  split at h
  · rename_i a δ' hm; exact ⟨a, δ', hm, h⟩
  · cases h
  · cases h
def lcM (C : Ctx) (ρ : Sls) (g : Tg) (tt : DT) (te : DE) : List D → M (List D)
  | [] => M.pure []
  | d :: ds => match bindT g d ρ with
    | none => fun _ => .fail
    | some ρ1 => do
      let b ← noX (tt C ρ1)
      match b with
      | true => do
        let y ← noX (te C ρ1)
        let r ← lcM C ρ g tt te ds
        M.pure (y :: r)
      | false => lcM C ρ g tt te ds
def dLc (it : DI) (g : Tg) (tt : DT) (te : DE) (vs : List Nat) : DE := fun C ρ => do
  let ds ← it C ρ
  match ownless ρ vs && decide (ds.length ≤ LINE) with
  | true => do
    let r ← noX (lcM C (wipeR ρ vs) g tt te ds)
    M.pure (.lst r)
  | false => fun _ => .fail
section
variable {ρ : Sls} {σ : St} {vs : List Nat}
theorem wipeR_length : ∀ vs : List Nat, (wipeR ρ vs).length = ρ.length
  | [] => rfl
  | v :: vs => by rw [wipeR, List.length_set, wipeR_length vs]
theorem wipeR_val : ∀ {vs : List Nat} {i : Nat} {s : Sl}, (wipeR ρ vs)[i]? = some s → s ≠ .no → ρ[i]? = some s ∧ i ∉ vs
  | [], _, _, h, _ => ⟨h, by simp⟩
  | v :: vs, i, s, h, n => by
    by_cases e : v = i
    · subst e
      by_cases hl : v < (wipeR ρ vs).length
      · rw [wipeR, List.getElem?_set_self hl] at h
        cases h
        exact absurd rfl n
      · rw [wipeR, List.getElem?_eq_none (by rw [List.length_set]; omega)] at h
        cases h
    · rw [wipeR, List.getElem?_set_ne e] at h
      obtain ⟨h1, h2⟩ := wipeR_val h n
      exact ⟨h1, fun z => (List.mem_cons.mp z).elim (fun z => e z.symm) h2⟩
theorem wipe_ne : ∀ {vs : List Nat} {i : Nat}, i ∉ vs → (wipe σ vs)[i]? = σ[i]?
  | [], _, _ => rfl
  | v :: vs, i, h => by
    rw [wipe, List.getElem?_set_ne (fun z => h (by simp [z])), wipe_ne fun z => h (List.mem_cons_of_mem _ z)]
theorem wipeR_ne : ∀ {vs : List Nat} {i : Nat}, i ∉ vs → (wipeR ρ vs)[i]? = ρ[i]?
  | [], _, _ => rfl
  | v :: vs, i, h => by
    rw [wipeR, List.getElem?_set_ne (fun z => h (by simp [z])), wipeR_ne fun z => h (List.mem_cons_of_mem _ z)]
theorem wipe_eq : ∀ {vs : List Nat} {σ σ' : St}, σ'.length = σ.length → (∀ i, i ∉ vs → σ'[i]? = σ[i]?) → wipe σ' vs = wipe σ vs := by
  intro vs σ σ' hl h
  apply List.ext_getElem?
  intro i
  by_cases hi : i ∈ vs
  · have key : ∀ (vs : List Nat) (σ : St), i ∈ vs → (wipe σ vs)[i]? = if i < σ.length then some none else none := by
      intro vs
      induction vs with
      | nil => intro σ h; cases h
      | cons v vs ih =>
        intro σ h
        by_cases e : v = i
        · subst e
          rw [wipe]
          by_cases hl : v < σ.length
          · rw [if_pos hl, List.getElem?_set_self (by rw [wipe_length]; exact hl)]
          · rw [if_neg hl, List.getElem?_eq_none (by rw [List.length_set, wipe_length]; omega)]
        · rw [wipe, List.getElem?_set_ne e]
          exact ih σ ((List.mem_cons.mp h).elim (fun z => absurd z.symm e) id)
    rw [key vs σ' hi, key vs σ hi, hl]
  · rw [wipe_ne hi, wipe_ne hi]
    exact h i hi
theorem wipe_idem : wipe (wipe σ vs) vs = wipe σ vs := wipe_eq (wipe_length σ vs) fun i h => wipe_ne h
theorem ownAt_wipe {a : Addr} (h : OwnAt (wipeR ρ vs) (wipe σ vs) a) : OwnAt ρ σ a := by
  obtain ⟨i, d, h1, h2⟩ := h
  obtain ⟨h3, h4⟩ := wipeR_val h1 (by simp)
  exact ⟨i, d, h3, by rw [← h2, wipe_ne h4]⟩
/-- the block's own look: D is a frame's -/
theorem Rel.blk {Γ : Gm} {F : Addr → Prop} {H0 H H' : Hp} {δ δ' : Dr} {P : Addr} (R : Rel Γ F H0 ρ δ σ H) (hp : H P = none) (hk : Γ.K.lookup P = none) (A : Aft Γ δ' H H') (h' : ∃ o, H' P = some o ∧ ∀ ps, o ≠ .tbl ps) :
    Rel Γ (fun a => F a ∨ a = P) H0 (wipeR ρ vs) δ' (wipe σ vs) H' := by
  have R1 := R.aft A
  have w : ∀ a, Trk Γ.K H a → ¬ Oall F ρ σ a → ¬ Oall (fun a => F a ∨ a = P) (wipeR ρ vs) (wipe σ vs) a := by
    rintro a t n (h | h)
    · rcases h with h | h
      · exact n (.inl h)
      · subst h
        rcases t with ⟨o, e, _⟩ | ⟨o, e⟩
        · rw [hp] at e; cases e
        · rw [hk] at e; cases e
    · exact n (.inr (ownAt_wipe h))
  exact {
    len := by rw [wipeR_length, wipe_length]; exact R.len
    val := fun i d h => by
      obtain ⟨h1, h2⟩ := wipeR_val h (by simp)
      obtain ⟨v, h3, r⟩ := R.val i d h1
      exact ⟨v, by rw [wipe_ne h2]; exact h3, r.mv (A.ext.mono R.dO) w⟩
    own := fun i d h => by
      obtain ⟨h1, h2⟩ := wipeR_val h (by simp)
      obtain ⟨a, h3, nf, n0, q⟩ := R.own i d h1
      refine ⟨a, by rw [wipe_ne h2]; exact h3, ?_, n0, q.mv (A.ext.mono R.dO) w fun o e t => A.ext a o e (fun z => nf (R.dF a z)) t⟩
      rintro (z | z)
      · exact nf z
      · obtain ⟨o, e⟩ := q.there
        rw [z, hp] at e
        cases e
    inj := fun i j d e a h1 h2 h3 h4 => by
      obtain ⟨g1, n1⟩ := wipeR_val h1 (by simp)
      obtain ⟨g2, n2⟩ := wipeR_val h2 (by simp)
      rw [wipe_ne n1] at h3
      rw [wipe_ne n2] at h4
      exact R.inj i j d e a g1 g2 h3 h4
    dr := A.dr
    dF := fun a h => .inl (R.dF a h)
    ftr := fun a h => by
      rcases h with h | h
      · exact R1.ftr a h
      · subst h; exact h'
    ext := R1.ext
    nw := A.nw
    tab := A.tab }
end
theorem ownAt_unwipe {ρ : Sls} {σ : St} {vs : List Nat} (o : ownless ρ vs = true) {a : Addr} (h : OwnAt ρ σ a) : OwnAt (wipeR ρ vs) (wipe σ vs) a := by
  obtain ⟨i, d, h1, h2⟩ := h
  have n : i ∉ vs := fun z => by
    have := List.all_eq_true.mp o i z
    rw [h1] at this
    simp [isOwn] at this
  exact ⟨i, d, by rw [wipeR_ne n]; exact h1, by rw [wipe_ne n]; exact h2⟩
theorem DNo.ncode {d c : Addr} {ws : WN} {q : Str} : DNo d ws ≠ LamX.CodeO c q := fun z => by
  unfold DNo LamX.CodeO at z
  injection z with f
  let ob : Obj := { cls := .none, data := .fields #[.none, .str q default] }
  let h : Heap := { objs := Array.replicate (c + 1) ob }
  have e0 : ∀ a, h.objs[a]? = if a < c + 1 then some ob else none := fun a => Array.getElem?_replicate ..
  have g : ∀ a o, h.get? a = some o → o = ob := by
    intro a o e
    unfold Heap.get? at e
    rw [e0] at e
    by_cases hlt : a < c + 1
    · rw [if_pos hlt] at e
      exact (Option.some.inj e).symm
    · rw [if_neg hlt] at e
      cases e
  have gc : h.get? c = some ob := by
    unfold Heap.get?
    rw [e0, if_pos (Nat.lt_succ_self c)]
  have y : dnP d ws h := by
    rw [f]
    exact ⟨ob, _, default, gc, rfl, rfl⟩
  obtain ⟨_, _, xs, _, o, es, ep, h1, _, h3, _⟩ := y
  rw [g d o h1] at h3
  cases h3
theorem tabs_updG {T : List (Addr × Str)} {H : Hp} {P : Addr} {u o : HO} (t : LamX.Tabs T H) (h : H P = some u) (n1 : ∀ ps, u ≠ .tbl ps) (n2 : ∀ c q, u ≠ LamX.CodeO c q) : LamX.Tabs T (upd H P o) := fun p hp => by
  obtain ⟨ps, h1, h2, h3⟩ := t p hp
  refine ⟨ps, by rw [upd_ne fun z => n1 ps (by rw [z, h] at h1; exact Option.some.inj h1)]; exact h1, h2, fun pos cv hc => ?_⟩
  obtain ⟨c, e1, e2⟩ := h3 pos cv hc
  exact ⟨c, e1, by rw [upd_ne fun z => n2 _ _ (by rw [z, h] at e2; exact Option.some.inj e2)]; exact e2⟩
theorem tabs_upd {T : List (Addr × Str)} {H : Hp} {P : Addr} {u o : HO} (t : LamX.Tabs T H) (h : H P = some u) (n1 : ∀ ps, u ≠ .tbl ps) (n2 : ∀ f, u ≠ .ext f) : LamX.Tabs T (upd H P o) := fun p hp => by
  obtain ⟨ps, h1, h2, h3⟩ := t p hp
  refine ⟨ps, by rw [upd_ne fun z => n1 ps (by rw [z, h] at h1; exact Option.some.inj h1)]; exact h1, h2, fun pos cv hc => ?_⟩
  obtain ⟨c, e1, e2⟩ := h3 pos cv hc
  exact ⟨c, e1, by rw [upd_ne fun z => n2 _ (by rw [z, h] at e2; exact Option.some.inj e2)]; exact e2⟩
theorem DrawRel.upd {Γ : Gm} {δ : Dr} {H : Hp} {P : Addr} {o : HO} (d : DrawRel Γ δ H) (n : ¬ Γ.DR P) : DrawRel Γ δ (upd H P o) := by
  obtain ⟨d1, d2, d3, d4⟩ := d
  exact ⟨by rw [upd_ne fun z => n (.inl z.symm)]; exact d1, by rw [upd_ne fun z => n (.inr (.inl z.symm))]; exact d2, by rw [upd_ne fun z => n (.inr (.inr z.symm))]; exact d3, d4⟩
mutual
theorem bindT_ne : ∀ {t : Tg} {d : D} {ρ ρ' : Sls} {j : Nat}, bindT t d ρ = some ρ' → j ∉ slT t → ρ'[j]? = ρ[j]?
  | .n i, d, ρ, ρ', j, h, n => by
    simp only [bindT] at h
    split at h
    · cases h
      rw [List.getElem?_set_ne fun z => n (by simp [slT, z])]
    · cases h
  | .t ts, d, ρ, ρ', j, h, n => by
    cases d <;> simp only [bindT, reduceCtorEq] at h
    · exact bindTs_ne h (by simpa [slT] using n)
    · exact bindTs_ne h (by simpa [slT] using n)
  | .l ts, d, ρ, ρ', j, h, n => by
    cases d <;> simp only [bindT, reduceCtorEq] at h
    exact bindTs_ne h (by simpa [slT] using n)
theorem bindTs_ne : ∀ {ts : List Tg} {ds : List D} {ρ ρ' : Sls} {j : Nat}, bindTs ts ds ρ = some ρ' → j ∉ slTs ts → ρ'[j]? = ρ[j]?
  | [], [], ρ, ρ', j, h, n => by
    simp only [bindTs, Option.some.injEq] at h
    rw [h]
  | t :: ts, d :: ds, ρ, ρ', j, h, n => by
    simp only [bindTs] at h
    cases hq : bindT t d ρ with
    | none => rw [hq] at h; cases h
    | some ρ1 =>
      rw [hq] at h
      rw [slTs, List.mem_append, not_or] at n
      rw [bindTs_ne h n.2, bindT_ne hq n.1]
  | [], _ :: _, ρ, ρ', j, h, n => by simp [bindTs] at h
  | _ :: _, [], ρ, ρ', j, h, n => by simp [bindTs] at h
end
/-- the state behind i turns of a block, the new list at P -/
def lcI (Γ : Gm) (O : Addr → Prop) (H1 : Hp) (P : Addr) (run : List D → Dr → Res (List D)) (ds tot : List D) (δe : Dr) (i : Nat) (H : Hp) : Prop :=
  (∃ ys, H P = some (.lst ys)) ∧ Ext Γ.DR H1 H ∧ (Γ.K.lookup P = none → ∃ (δ : Dr) (acc r : List D) (ys : List V), H P = some (.lst ys) ∧ RelDs Γ H O acc ys ∧ acc.length ≤ i ∧ Aft Γ δ H1 H ∧ run (ds.drop i) δ = .ok r δe ∧ acc ++ r = tot)
section
variable {S : Sta} {C : Ctx} {E : XK} {it : DI} {g : Tg} {tt : DT} {te : DE} {vs : List Nat}
theorem lc_read (hv : ∀ i ∈ slT g, i ∈ vs) {σ : St} {H : Hp} {Q : VK} (h : rdF S C E (dLc it g tt te vs) σ H Q) :
    tLc (rdI false S C E it) (gD S g) (rdT S C exF tt) (rdE S C exF te) vs σ H (fun v H' => NW S.K H' → Q v H') := by
  obtain ⟨Γ, F, H0, ρ, δ, hS, R, o⟩ := h
  subst hS
  refine ⟨Γ, F, H0, ρ, δ, rfl, R, o.bind.imp fun ds δ1 H1 A1 o1 J wk P hP => ?_⟩
  have R1 := R.aft A1
  cases hg : (ownless ρ vs && decide (ds.length ≤ LINE)) with
  | false => rw [hg] at o1; exact o1.elim
  | true =>
  rw [hg] at o1
  simp only [Bool.and_eq_true, decide_eq_true_eq] at hg
  cases hr : noX (lcM C (wipeR ρ vs) g tt te ds) δ1 with
  | fail => have := o1.bind; rw [hr] at this; exact this.elim
  | exc c as δ2 => exact absurd hr noX_exc
  | ok tot δe =>
  have q := o1.bind
  rw [hr] at q
  replace hr := noX_ok hr
  obtain ⟨G, Y, w, wg, wy⟩ := wk.ex
  have fP : Fr H P := fr_back A1.ext A1.dr (fr_none hP)
  have nO := R1.fresh hP
  have sle : ∀ a, Γ.DR a → selS false Γ (Oall F ρ σ) a := fun a z => .inl z
  have dP : ¬ Γ.DR P := fun z => nO (R1.dO P z)
  let O' : Addr → Prop := Oall (fun a => F a ∨ a = P) (wipeR ρ vs) (wipe σ vs)
  refine lc_it w (lcI Γ O' H1 P (lcM C (wipeR ρ vs) g tt te) ds tot δe) ?_ ?_ ?_ ?_
  · refine ⟨⟨_, upd_same⟩, Ext.new hP, fun hk => ⟨δ1, [], tot, [], upd_same, .nil, Nat.le_refl _, ?_, hr, rfl⟩⟩
    refine aft_same (same_new hP) R1.dr R1.tab fun a o e => ?_
    by_cases ha : a = P
    · rw [ha]; exact hk
    · rw [upd_ne ha] at e; exact R1.nw a o e
  · exact fun i H2 hi I => wg H2 (I.2.1.mono sle)
  · intro i x H2 H3 hi I y
    obtain ⟨⟨ys0, hy0⟩, eI, I⟩ := I
    have hd : ds[i]? = some ds[i] := List.getElem?_eq_getElem hi
    have nwy := wy i H2 x H3 ds[i] (fun _ => False) (eI.mono sle) (fun _ _ _ z => z) (fun _ z => z.elim) y hd
    have hk : Γ.K.lookup P = none := nwy.2.1 P _ (nwy.1 _ _ hy0)
    obtain ⟨δ2, acc, r, ys, hP2, ra, la, A2, run, tot'⟩ := I hk
    have B2 : Rel Γ (fun a => F a ∨ a = P) H0 (wipeR ρ vs) δ2 (wipe σ vs) H2 := R1.blk hP hk A2 ⟨_, hP2, fun _ z => by cases z⟩
    obtain ⟨sm, nw3, rx⟩ := wy i H2 x H3 ds[i] O' (eI.mono sle) (fun a t n => by
      rintro (h | h)
      · rcases h with h | h
        · exact n (.inl h)
        · subst h
          rcases t with ⟨o, e, _⟩ | ⟨o, e⟩
          · rw [hP] at e; cases e
          · rw [hk] at e; cases e
      · exact n (.inr (ownAt_wipe h))) (fun a z => let ⟨o, e, _⟩ := B2.otr a z; ⟨o, e⟩) y hd
    have A3 : Aft Γ δ2 H2 H3 := aft_same sm B2.dr B2.tab nw3
    have B3 := B2.aft A3
    have r3 := ra.mv (A3.ext.mono B2.dO) fun _ _ n => n
    rw [List.drop_eq_getElem_cons hi] at run
    unfold lcM at run
    cases hb : bindT g ds[i] (wipeR ρ vs) with
    | none => rw [hb] at run; cases run
    | some ρ1 =>
      rw [hb] at run
      obtain ⟨b, δ3, ht, run⟩ := bind_ok run
      replace ht := noX_ok ht
      refine ⟨Γ, _, H0, _, ρ1, δ2, _, rfl, B3, rx, hb, fun σ2 R2 ch o2 => ⟨?_, Γ, _, H0, ρ1, δ2, rfl, R2, ?_⟩⟩
      · exact (wipe_eq ch.1 fun j hj => ch.2 j fun z => hj (hv j z)).trans wipe_idem
      rw [ht]
      intro H4 A4
      have R4 := R2.aft A4
      have hP4 : H4 P = some (.lst ys) := A4.ext P _ (sm _ _ hP2) dP fun _ z => by cases z
      have r4 := r3.mv (A4.ext.mono B3.dO) fun _ _ n => n
      cases b with
      | false =>
        show if false = true then _ else _
        rw [if_neg Bool.false_ne_true]
        exact ⟨⟨_, hP4⟩, A2.ext.trans (A3.ext.trans A4.ext), fun _ => ⟨δ3, acc, r, ys, hP4, r4, Nat.le_succ_of_le la, A2.trans (A3.trans A4), run, tot'⟩⟩
      | true =>
        show if true = true then _ else _
        rw [if_pos rfl]
        obtain ⟨y', δ4, he, run⟩ := bind_ok run
        obtain ⟨r', δ5, hl, run⟩ := bind_ok run
        cases run
        replace he := noX_ok he
        refine ⟨Γ, _, H0, ρ1, δ3, rfl, R4, ?_⟩
        rw [he]
        intro H5 A5 v rv
        have hP5 : H5 P = some (.lst ys) := A5.ext P _ hP4 dP fun _ z => by cases z
        have A15 := A2.trans (A3.trans (A4.trans A5))
        have eP : Ext (fun a => a = P) H5 (upd H5 P (.lst (ys ++ [v]))) := fun a o e n _ => by rw [upd_ne n]; exact e
        have PO : O' P := .inl (.inr rfl)
        have e5 : Ext O' H5 (upd H5 P (.lst (ys ++ [v]))) := eP.mono fun a z => z ▸ PO
        have eD : Ext Γ.DR H1 (upd H5 P (.lst (ys ++ [v]))) := fun a o e n t => by
          have ha : a ≠ P := fun z => by rw [z, hP] at e; cases e
          rw [upd_ne ha]
          exact A15.ext a o e n t
        refine ⟨ys, hP5, ?_, ⟨_, upd_same⟩, eD, fun _ => ⟨δ4, acc ++ [y'], r', _, upd_same, ?_, ?_, ?_, hl, by rw [← tot', List.append_assoc]; rfl⟩⟩
        · have := ra.length
          have h1 := hg.2
          rw [LINE_eq] at h1
          omega
        · have rv' : RelD Γ H5 O' y' v := rv.less fun a z => by
            rcases z with z | z
            · exact .inl z
            · obtain ⟨j, d, h1, h2⟩ := z
              have hj : j ∉ slT g := fun z => (wipeR_val h1 (by simp)).2 (hv j z)
              exact .inr ⟨j, d, by rw [bindT_ne hb hj]; exact h1, by rw [ch.2 j hj]; exact h2⟩
          exact ((r4.mv (A5.ext.mono B3.dO) fun _ _ n => n).append (.cons rv' .nil)).mv e5 fun _ _ n => n
        · rw [List.length_append]; exact Nat.succ_le_succ la
        · refine ⟨eD, ?_, ?_, ?_⟩
          · exact A5.dr.upd dP
          · intro a o e
            by_cases ha : a = P
            · rw [ha]; exact hk
            · rw [upd_ne ha] at e; exact A5.nw a o e
          · exact tabs_upd A5.tab hP5 (fun _ z => by cases z) fun _ z => by cases z
  · intro H2 I
    obtain ⟨⟨ys0, hy0⟩, eI, I⟩ := I
    intro nw
    obtain ⟨δ2, acc, r, ys, hP2, ra, la, A2, run, tot'⟩ := I (nw P _ hy0)
    rw [List.drop_length] at run
    cases run
    rw [List.append_nil] at tot'
    subst tot'
    exact q H2 A2 H2 (Aft.mk (Ext.refl _ _) A2.dr A2.nw A2.tab) P fP ⟨ys, hP2, ra.mv (Ext.refl _ _) fun a _ n z => n (by
      rcases z with (z | z) | z
      · exact .inl (.inl z)
      · exact .inr (ownAt_unwipe hg.1 z)
      · exact .inl (.inr z))⟩
section
variable {X : Cx} {elt tg iter : Expr} {ifs : List Expr} {scope : Scope} {own : List (Str × Nat)} {pos : Pos}
theorem f_lc (hK : X.K = S.K) (hc : X.calm = true) (hN : X.N.Nodup) (hi : PI X tg iter (rdI false S C E it)) (ok : BlkOk X.N X.env.scope scope own) (hv : ∀ i ∈ slT g, i ∈ own.map (·.2))
    (hg : ∀ (s : Shared) (H : Hp) (c : Addr) (cl : List (Str × Addr)) (fp : List Addr), PG (X.blk s H scope (compEnvC scope cl c X.env) fp) tg (gD S g))
    (ht : ∀ (s : Shared) (H : Hp) (c : Addr) (cl : List (Str × Addr)) (fp : List Addr), PTs (X.blk s H scope (compEnvC scope cl c X.env) fp) ifs (rdT S C exF tt))
    (he : ∀ (s : Shared) (H : Hp) (c : Addr) (cl : List (Str × Addr)) (fp : List Addr), PE (X.blk s H scope (compEnvC scope cl c X.env) fp) elt (rdE S C exF te)) (hs : ∀ x, foldedSetIterable iter X.env x = pure x) :
    PE X (.ListComp elt [⟨tg, iter, ifs, 0⟩] scope pos) (rdF S C E (dLc it g tt te (own.map (·.2)))) :=
  (pe_lc hc hN hi ok hg ht he hs).by' fun σ H Q h => hK ▸ lc_read hv h
theorem ts_nil : PTs X [] (rdT S C E fun _ _ => M.pure true) := ⟨fun pins s σ H Q I ⟨Γ, F, H0, ρ, δ, hS, R, o⟩ => pts_nil.run pins s σ H _ I (o.pure H R.refl)⟩
theorem ts_one {c : Expr} (h : PT X c (rdT S C E tt)) : PTs X [c] (rdT S C E tt) := pts_one h
end
end
end SG

set_option Elab.async false
set_option linter.all false
set_option maxRecDepth 100000
set_option maxHeartbeats 4000000
namespace SG
open PySem PySem.Spec L2
open PyProof.Rows hiding St
/-! ### slots pushed, moved, hidden -/
section
variable {Γ : Gm} {F : Addr → Prop} {H0 H H' : Hp} {ρ ρ' ss : Sls} {σ σ' ws : St} {δ δ' : Dr}
theorem Rel.remap (R : Rel Γ F H0 ρ δ σ H) (hl : ρ'.length = σ'.length) (f : Nat → Nat) (h : ∀ k s, ρ'[k]? = some s → s ≠ .no → ρ[f k]? = some s ∧ σ'[k]? = σ[f k]?)
    (inj : ∀ k l d e, ρ'[k]? = some (.own d) → ρ'[l]? = some (.own e) → f k = f l → k = l) : Rel Γ F H0 ρ' δ σ' H := by
  have w : ∀ a, OwnAt ρ' σ' a → OwnAt ρ σ a := by
    rintro a ⟨k, d, h1, h2⟩
    obtain ⟨h3, h4⟩ := h k _ h1 (by simp)
    exact ⟨f k, d, h3, h4 ▸ h2⟩
  have w' : ∀ a, Oall F ρ' σ' a → Oall F ρ σ a := fun a z => z.imp id (w a)
  exact {
    len := hl
    val := fun k d e => by
      obtain ⟨h3, h4⟩ := h k _ e (by simp)
      obtain ⟨v, h5, r⟩ := R.val _ d h3
      exact ⟨v, h4.trans h5, r.less w'⟩
    own := fun k d e => by
      obtain ⟨h3, h4⟩ := h k _ e (by simp)
      obtain ⟨a, h5, nf, n0, q⟩ := R.own _ d h3
      exact ⟨a, h4.trans h5, nf, n0, q.mv (Ext.refl _ _) (fun a _ n z => n (w' a z)) fun _ e _ => e⟩
    inj := fun k l d e a h1 h2 h3 h4 => by
      obtain ⟨g1, g2⟩ := h k _ h1 (by simp)
      obtain ⟨g3, g4⟩ := h l _ h2 (by simp)
      exact inj k l d e h1 h2 (R.inj _ _ d e a g1 g3 (g2 ▸ h3) (g4 ▸ h4))
    dr := R.dr
    dF := R.dF
    ftr := R.ftr
    ext := R.ext
    nw := R.nw
    tab := R.tab }
theorem at_app {α : Type} {xs ys : List α} {i : Nat} {x : α} (h : (xs ++ ys)[i]? = some x) : xs[i]? = some x ∨ ∃ j, i = xs.length + j ∧ ys[j]? = some x := by
  by_cases hi : i < xs.length
  · rw [List.getElem?_append_left hi] at h; exact .inl h
  · rw [List.getElem?_append_right (by omega)] at h
    exact .inr ⟨i - xs.length, by omega, h⟩
theorem app_l {α : Type} {xs ys : List α} {i : Nat} {x : α} (h : xs[i]? = some x) : (xs ++ ys)[i]? = some x := by
  rw [List.getElem?_append_left (List.getElem?_eq_some_iff.mp h).1]; exact h
theorem app_r {α : Type} {xs ys : List α} {j : Nat} : (xs ++ ys)[xs.length + j]? = ys[j]? := by
  rw [List.getElem?_append_right (by omega), Nat.add_sub_cancel_left]
theorem app_rl {α β : Type} {xs ys : List α} {zs : List β} {j : Nat} (h : zs.length = xs.length) : (xs ++ ys)[zs.length + j]? = ys[j]? := by
  rw [h]; exact app_r
theorem app_at {α : Type} {xs ys : List α} {i : Nat} (h : i < xs.length) : (xs ++ ys)[i]? = xs[i]? := List.getElem?_append_left h
/-- one more slot, a value -/
theorem Rel.pushVal (R : Rel Γ F H0 ρ δ σ H) {d : D} {v : V} (r : RelD Γ H (Oall F ρ σ) d v) : Rel Γ F H0 (ρ ++ [.val d]) δ (σ ++ [some v]) H := by
  have w : ∀ a, OwnAt (ρ ++ [.val d]) (σ ++ [some v]) a → OwnAt ρ σ a := by
    rintro a ⟨k, e, h1, h2⟩
    rcases at_app h1 with h | ⟨j, rfl, h'⟩
    · exact ⟨k, e, h, by rw [app_at (by rw [← R.len]; exact (List.getElem?_eq_some_iff.mp h).1)] at h2; exact h2⟩
    · cases j <;> simp at h'
  have w' : ∀ a, Oall F (ρ ++ [.val d]) (σ ++ [some v]) a → Oall F ρ σ a := fun a z => z.imp id (w a)
  exact {
    len := by rw [List.length_append, List.length_append, R.len]; rfl
    val := fun k e h => by
      rcases at_app h with h | ⟨j, rfl, h'⟩
      · obtain ⟨u, h5, q⟩ := R.val k e h
        exact ⟨u, app_l h5, q.less w'⟩
      · cases j with
        | zero =>
          simp only [List.getElem?_cons_zero, Option.some.injEq, Sl.val.injEq] at h'
          subst h'
          exact ⟨v, by rw [app_rl R.len]; rfl, r.less w'⟩
        | succ j => simp at h'
    own := fun k e h => by
      rcases at_app h with h | ⟨j, rfl, h'⟩
      · obtain ⟨a, h5, nf, n0, q⟩ := R.own k e h
        exact ⟨a, app_l h5, nf, n0, q.mv (Ext.refl _ _) (fun a _ n z => n (w' a z)) fun _ e _ => e⟩
      · cases j <;> simp at h'
    inj := fun k l e f a h1 h2 h3 h4 => by
      rcases at_app h1 with h1 | ⟨j, rfl, h1'⟩
      · rcases at_app h2 with h2 | ⟨j, rfl, h2'⟩
        · rw [app_at (by rw [← R.len]; exact (List.getElem?_eq_some_iff.mp h1).1)] at h3
          rw [app_at (by rw [← R.len]; exact (List.getElem?_eq_some_iff.mp h2).1)] at h4
          exact R.inj k l e f a h1 h2 h3 h4
        · cases j <;> simp at h2'
      · cases j <;> simp at h1'
    dr := R.dr
    dF := R.dF
    ftr := R.ftr
    ext := R.ext
    nw := R.nw
    tab := R.tab }
/-- one more slot, its own container, fresh since H1 -/
theorem Rel.pushOwn {H1 : Hp} (R1 : Rel Γ F H0 ρ δ σ H1) (A : Aft Γ δ' H1 H) {d : D} {p : Addr} (hp : Fr H1 p) (q : OwnD Γ H (fun b => Oall F ρ σ b ∨ b = p) d p) : Rel Γ F H0 (ρ ++ [.own d]) δ' (σ ++ [some (.ref p)]) H := by
  have R := R1.aft A
  have nO := R1.freshF hp
  have w : ∀ a, OwnAt (ρ ++ [.own d]) (σ ++ [some (.ref p)]) a → OwnAt ρ σ a ∨ a = p := by
    rintro a ⟨k, e, h1, h2⟩
    rcases at_app h1 with h | ⟨j, rfl, h'⟩
    · exact .inl ⟨k, e, h, by rw [app_at (by rw [← R.len]; exact (List.getElem?_eq_some_iff.mp h).1)] at h2; exact h2⟩
    · cases j with
      | zero =>
        rw [app_rl R.len] at h2
        simp only [List.getElem?_cons_zero, Option.some.injEq, V.ref.injEq] at h2
        exact .inr h2.symm
      | succ j => simp at h'
  have w' : ∀ a, Oall F (ρ ++ [.own d]) (σ ++ [some (.ref p)]) a → Oall F ρ σ a ∨ a = p := fun a z => z.elim (fun z => .inl (.inl z)) fun z => (w a z).imp .inr id
  have hk : Γ.K.lookup p = none := by obtain ⟨o, e⟩ := q.there; exact R.nw p o e
  have tw : ∀ a, Trk Γ.K H1 a → ¬ Oall F ρ σ a → ¬ Oall F (ρ ++ [.own d]) (σ ++ [some (.ref p)]) a := by
    intro a t n z
    rcases w' a z with z | rfl
    · exact n z
    · rcases t with ⟨o, e, t⟩ | ⟨o, e⟩
      · obtain ⟨ps, z⟩ := hp o e
        exact t ps z
      · rw [hk] at e; cases e
  have eO := A.ext.mono R1.dO
  exact {
    len := by rw [List.length_append, List.length_append, R.len]; rfl
    val := fun k e h => by
      rcases at_app h with h | ⟨j, rfl, h'⟩
      · obtain ⟨u, h5, q⟩ := R1.val k e h
        exact ⟨u, app_l h5, q.mv eO tw⟩
      · cases j <;> simp at h'
    own := fun k e h => by
      rcases at_app h with h | ⟨j, rfl, h'⟩
      · obtain ⟨a, h5, nf, n0, q⟩ := R1.own k e h
        exact ⟨a, app_l h5, nf, n0, q.mv eO tw fun o e t => A.ext a o e (fun z => nf (R1.dF a z)) t⟩
      · cases j with
        | zero =>
          simp only [List.getElem?_cons_zero, Option.some.injEq, Sl.own.injEq] at h'
          subst h'
          exact ⟨p, by rw [app_rl R.len]; rfl, fun z => nO (.inl z), R1.fr0 hp, q.mv (Ext.refl _ _) (fun a _ n z => n (w' a z)) fun _ e _ => e⟩
        | succ j => simp at h'
    inj := fun k l e f a h1 h2 h3 h4 => by
      have old : ∀ {k : Nat} {e : D}, ρ[k]? = some (.own e) → (σ ++ [some (V.ref p)])[k]? = some (some (.ref a)) → σ[k]? = some (some (.ref a)) ∧ a ≠ p := by
        intro k e h1 h3
        rw [app_at (by rw [← R.len]; exact (List.getElem?_eq_some_iff.mp h1).1)] at h3
        exact ⟨h3, fun z => nO (z ▸ .inr ⟨k, e, h1, h3⟩)⟩
      have new : ∀ {j : Nat} {e : D}, [Sl.own d][j]? = some (.own e) → (σ ++ [some (V.ref p)])[ρ.length + j]? = some (some (.ref a)) → j = 0 ∧ a = p := by
        intro j e h1 h3
        cases j with
        | zero =>
          rw [app_rl R.len] at h3
          simp only [List.getElem?_cons_zero, Option.some.injEq, V.ref.injEq] at h3
          exact ⟨rfl, h3.symm⟩
        | succ j => simp at h1
      rcases at_app h1 with h1 | ⟨j, rfl, h1'⟩
      · rcases at_app h2 with h2 | ⟨j, rfl, h2'⟩
        · exact R.inj k l e f a h1 h2 (old h1 h3).1 (old h2 h4).1
        · exact absurd (new h2' h4).2 (old h1 h3).2
      · rcases at_app h2 with h2 | ⟨i, rfl, h2'⟩
        · exact absurd (new h1' h3).2 (old h2 h4).2
        · rw [(new h1' h3).1, (new h2' h4).1]
    dr := R.dr
    dF := R.dF
    ftr := R.ftr
    ext := R.ext
    nw := R.nw
    tab := R.tab }
/-- what is pushed is a frame's, for a while -/
def FrO (F : Addr → Prop) (ss : Sls) (ws : St) (a : Addr) : Prop := F a ∨ OwnAt ss ws a
theorem oall_app (hl : ρ.length = σ.length) (a : Addr) : Oall F (ρ ++ ss) (σ ++ ws) a ↔ Oall (FrO F ss ws) ρ σ a := by
  constructor
  · rintro (h | ⟨k, d, h1, h2⟩)
    · exact .inl (.inl h)
    · rcases at_app h1 with h1 | ⟨j, rfl, h1'⟩
      · exact .inr ⟨k, d, h1, by rw [app_at (by rw [← hl]; exact (List.getElem?_eq_some_iff.mp h1).1)] at h2; exact h2⟩
      · exact .inl (.inr ⟨j, d, h1', by rw [app_rl hl] at h2; exact h2⟩)
  · rintro ((h | ⟨k, d, h1, h2⟩) | ⟨k, d, h1, h2⟩)
    · exact .inl h
    · exact .inr ⟨ρ.length + k, d, by rw [app_r]; exact h1, by rw [app_rl hl]; exact h2⟩
    · exact .inr ⟨k, d, app_l h1, app_l h2⟩
theorem Rel.hide (R : Rel Γ F H0 (ρ ++ ss) δ (σ ++ ws) H) (hl : ρ.length = σ.length) : Rel Γ (FrO F ss ws) H0 ρ δ σ H := by
  have o := fun a => (oall_app (F := F) (ss := ss) (ws := ws) hl a).mpr
  exact {
    len := hl
    val := fun k d h => by
      obtain ⟨v, h1, r⟩ := R.val k d (app_l h)
      rw [app_at (by rw [← hl]; exact (List.getElem?_eq_some_iff.mp h).1)] at h1
      exact ⟨v, h1, r.less o⟩
    own := fun k d h => by
      obtain ⟨a, h1, nf, n0, q⟩ := R.own k d (app_l h)
      have h1' := h1
      rw [app_at (by rw [← hl]; exact (List.getElem?_eq_some_iff.mp h).1)] at h1
      refine ⟨a, h1, ?_, n0, q.mv (Ext.refl _ _) (fun a _ n z => n (o a z)) fun _ e _ => e⟩
      rintro (z | ⟨j, e, h2, h3⟩)
      · exact nf z
      · have := R.inj k (ρ.length + j) d e a (app_l h) (by rw [app_r]; exact h2) h1' (by rw [app_rl hl]; exact h3)
        have hk := (List.getElem?_eq_some_iff.mp h).1
        omega
    inj := fun k l d e a h1 h2 h3 h4 => R.inj k l d e a (app_l h1) (app_l h2) (app_l h3) (app_l h4)
    dr := R.dr
    dF := fun a h => .inl (R.dF a h)
    ftr := fun a h => R.otr a ((oall_app hl a).mpr (.inl h))
    ext := R.ext
    nw := R.nw
    tab := R.tab }
/-- an expression's value: shared, or a container of its own, fresh since H1 -/
def PZ (Γ : Gm) (H1 H : Hp) (O : Addr → Prop) : Sl → V → Prop
  | .no, _ => False
  | .val d, v => RelD Γ H O d v
  | .own d, v => ∃ p, v = .ref p ∧ Fr H1 p ∧ OwnD Γ H (fun b => O b ∨ b = p) d p
theorem Rel.push {H1 : Hp} (R : Rel Γ F H0 ρ δ σ H1) (A : Aft Γ δ' H1 H) {s : Sl} {v : V} (z : PZ Γ H1 H (Oall F ρ σ) s v) : Rel Γ F H0 (ρ ++ [s]) δ' (σ ++ [some v]) H := by
  cases s with
  | no => exact z.elim
  | val d => exact (R.aft A).pushVal z
  | own d =>
    obtain ⟨p, rfl, hp, q⟩ := z
    exact R.pushOwn A hp q
theorem PZ.of {H1 : Hp} {s : Sl} {v : V} (hl : ρ.length = σ.length) (z : PZ Γ H1 H (Oall (FrO F ss ws) ρ σ) s v) : PZ Γ H1 H (Oall F (ρ ++ ss) (σ ++ ws)) s v := by
  have e : Oall F (ρ ++ ss) (σ ++ ws) = Oall (FrO F ss ws) ρ σ := funext fun a => propext (oall_app hl a)
  rw [e]; exact z
end
end SG

set_option Elab.async false
set_option linter.all false
set_option maxRecDepth 100000
set_option maxHeartbeats 4000000
namespace SG
open PySem PySem.Spec L2
open PyProof.Rows hiding St
/-! ### statements -/
inductive Fl where
  | nx (ρ : Sls) | rt (d : D) | bk (ρ : Sls) | ct (ρ : Sls)
abbrev DS := Ctx → Sls → M Fl
abbrev DZ := Ctx → Sls → M Sl
abbrev DM := Ctx → Sls → M (D × Sls)
def OutS (Γ : Gm) (F : Addr → Prop) (H0 : Hp) (E : XK) (T : Ends) : Res Fl → Prop
  | .ok (.nx ρ) δ => ∀ σ H, Rel Γ F H0 ρ δ σ H → T.nx σ H
  | .ok (.bk ρ) δ => ∀ σ H, Rel Γ F H0 ρ δ σ H → T.bk σ H
  | .ok (.ct ρ) δ => ∀ σ H, Rel Γ F H0 ρ δ σ H → T.ct σ H
  | .ok (.rt d) δ => ∀ v H, Aft Γ δ H0 H → RelD Γ H F d v → T.rt v H
  | .exc c as δ => ∀ cls dx H, Aft Γ δ H0 H → ExcOk Γ.toSta c as cls dx → E cls dx H
  | .fail => False
def rdS (S : Sta) (C : Ctx) (E : XK) (t : DS) : TS := fun T σ H => ∃ (Γ : Gm) (F : Addr → Prop) (H0 : Hp) (ρ : Sls) (δ : Dr), Γ.toSta = S ∧ Rel Γ F H0 ρ δ σ H ∧ OutS Γ F H0 E T (t C ρ δ)
def rdZ (S : Sta) (C : Ctx) (E : XK) (t : DZ) : TE := fun σ H Q => ∃ (Γ : Gm) (F : Addr → Prop) (H0 : Hp) (ρ : Sls) (δ : Dr), Γ.toSta = S ∧ Rel Γ F H0 ρ δ σ H ∧
  OutG Γ H E (fun s _ H' => ∀ v, PZ Γ H H' (Oall F ρ σ) s v → Q v H') (t C ρ δ)
/-- an expression that takes from a slot's own container -/
def OutM (Γ : Gm) (F : Addr → Prop) (H0 : Hp) (σ : St) (E : XK) (Q : VK) : Res (D × Sls) → Prop
  | .ok (d, ρ) δ => ∀ v H, Rel Γ F H0 ρ δ σ H → RelD Γ H (Oall F ρ σ) d v → Q v H
  | .exc c as δ => ∀ cls dx H, Aft Γ δ H0 H → ExcOk Γ.toSta c as cls dx → E cls dx H
  | .fail => False
def rdM (S : Sta) (C : Ctx) (E : XK) (t : DM) : TE := fun σ H Q => ∃ (Γ : Gm) (F : Addr → Prop) (H0 : Hp) (ρ : Sls) (δ : Dr), Γ.toSta = S ∧ Rel Γ F H0 ρ δ σ H ∧ OutM Γ F H0 σ E Q (t C ρ δ)
/-! ### combinators -/
def zV (e : DE) : DZ := fun C ρ => do
  let d ← e C ρ
  M.pure (.val d)
def zO (e : DE) : DZ := fun C ρ => do
  let d ← e C ρ
  M.pure (.own d)
def mV (e : DE) : DM := fun C ρ => do
  let d ← e C ρ
  M.pure (d, ρ)
def dNop : DS := fun _ ρ => M.pure (.nx ρ)
def dSeq (a b : DS) : DS := fun C ρ => do
  let f ← a C ρ
  match f with
  | .nx ρ' => b C ρ'
  | f => M.pure f
def dSet (i : Nat) (z : DZ) : DS := fun C ρ => do
  let s ← z C ρ
  M.pure (.nx (ρ.set i s))
def dSetM (i : Nat) (m : DM) : DS := fun C ρ => do
  let r ← m C ρ
  M.pure (.nx (r.2.set i (.val r.1)))
def optS : Option Sls → M Fl
  | some ρ => M.pure (.nx ρ)
  | none => fun _ => .fail
def dPar2 (i j : Nat) (a b : DZ) : DS := fun C ρ => do
  let s ← a C ρ
  let u ← b C ρ
  optS (if i < ρ.length ∧ j < ρ.length ∧ i ≠ j then some ((ρ.set i s).set j u) else none)
def dPar3 (i j k : Nat) (a b c : DZ) : DS := fun C ρ => do
  let s ← a C ρ
  let u ← b C ρ
  let w ← c C ρ
  optS (if i < ρ.length ∧ j < ρ.length ∧ k < ρ.length ∧ i ≠ j ∧ i ≠ k ∧ j ≠ k then some (((ρ.set i s).set j u).set k w) else none)
def dAsg (t : Tg) (e : DE) : DS := fun C ρ => do
  let d ← e C ρ
  optS (bindT t d ρ)
def dAsgM (t : Tg) (m : DM) : DS := fun C ρ => do
  let r ← m C ρ
  optS (bindT t r.1 r.2)
def dDrop (e : DE) : DS := fun C ρ => do
  let _ ← e C ρ
  M.pure (.nx ρ)
def dRet (e : DE) : DS := fun C ρ => do
  let d ← e C ρ
  M.pure (.rt d)
def dRetN : DS := fun _ _ => M.pure (.rt .non)
def dBreak : DS := fun _ ρ => M.pure (.bk ρ)
def dCont : DS := fun _ ρ => M.pure (.ct ρ)
def dFail : DS := fun _ _ _ => .fail
def dIfS (t : DT) (a b : DS) : DS := fun C ρ => do
  let k ← t C ρ
  match k with
  | true => a C ρ
  | false => b C ρ
def escR (ρ : Sls) : List Nat → Sls
  | [] => ρ
  | i :: is => match (escR ρ is)[i]? with
    | some (.own d) => (escR ρ is).set i (.val d)
    | _ => escR ρ is
def dEsc (is : List Nat) (s : DS) : DS := fun C ρ => s C (escR ρ is)
/-- the container moves to another slot -/
def movR (i j : Nat) (ρ : Sls) : Option Sls := match ρ[j]? with
  | some (.own d) => if i ≠ j then some ((ρ.set i (.own d)).set j .no) else none
  | _ => none
def dMov (i j : Nat) : DS := fun _ ρ => optS (movR i j ρ)
def afterB (f : Fl) (k : Sls → M Fl) : M Fl := match f with
  | .nx ρ => k ρ
  | .ct ρ => k ρ
  | .bk ρ => M.pure (.nx ρ)
  | .rt d => M.pure (.rt d)
def whN (t : DT) (b : DS) (C : Ctx) : Nat → Sls → M Fl
  | 0, _ => fun _ => .fail
  | n + 1, ρ => do
    let k ← t C ρ
    match k with
    | true => do
      let f ← b C ρ
      afterB f (whN t b C n)
    | false => M.pure (.nx ρ)
open Classical in
noncomputable def dWhile (t : DT) (b : DS) : DS := fun C ρ δ => if h : ∃ n, whN t b C n ρ δ ≠ .fail then whN t b C (choose h) ρ δ else .fail
def forM' (g : Tg) (b : DS) (C : Ctx) : List D → Sls → M Fl
  | [], ρ => M.pure (.nx ρ)
  | d :: ds, ρ => match bindT g d ρ with
    | none => fun _ => .fail
    | some ρ1 => do
      let f ← b C ρ1
      afterB f (forM' g b C ds)
def dFor (it : DI) (g : Tg) (b : DS) : DS := fun C ρ => do
  let ds ← it C ρ
  forM' g b C ds ρ
/-! ### outcomes -/
theorem bind_eq {α β : Type} (m : M α) (f : α → M β) (δ : Dr) : (m >>= f) δ = match m δ with
    | .ok a δ' => f a δ'
    | .exc c as δ' => .exc c as δ'
    | .fail => .fail := rfl
section
variable {Γ : Gm} {F : Addr → Prop} {H0 H0' H H' : Hp} {E : XK} {T T' : Ends} {ρ : Sls} {δ : Dr} {σ : St}
theorem OutS.bindG {α : Type} {m : M α} {f : α → M Fl} (R : Ext Γ.DR H0 H) (h : OutS Γ F H0 E T ((m >>= f) δ)) : OutG Γ H E (fun a δ1 H1 => OutS Γ F H0 E T (f a δ1)) (m δ) := by
  rw [bind_eq] at h
  cases q : m δ with
  | ok a δ' =>
    rw [q] at h
    exact fun H' A => h
  | exc c as δ' =>
    rw [q] at h
    exact fun cls dx H' A e => h cls dx H' ⟨R.trans A.ext, A.dr, A.nw, A.tab⟩ e
  | fail =>
    rw [q] at h
    exact h
theorem OutS.bindS {m : M Fl} {f : Fl → M Fl} (h : OutS Γ F H0 E T ((m >>= f) δ))
    (n : ∀ ρ δ, OutS Γ F H0 E T (f (.nx ρ) δ) → ∀ σ H, Rel Γ F H0 ρ δ σ H → T'.nx σ H) (b : ∀ ρ δ, OutS Γ F H0 E T (f (.bk ρ) δ) → ∀ σ H, Rel Γ F H0 ρ δ σ H → T'.bk σ H)
    (c : ∀ ρ δ, OutS Γ F H0 E T (f (.ct ρ) δ) → ∀ σ H, Rel Γ F H0 ρ δ σ H → T'.ct σ H) (r : ∀ d δ, OutS Γ F H0 E T (f (.rt d) δ) → ∀ v H, Aft Γ δ H0 H → RelD Γ H F d v → T'.rt v H) : OutS Γ F H0 E T' (m δ) := by
  rw [bind_eq] at h
  cases q : m δ with
  | ok a δ' =>
    rw [q] at h
    cases a with
    | nx ρ => exact n _ _ h
    | bk ρ => exact b _ _ h
    | ct ρ => exact c _ _ h
    | rt d => exact r _ _ h
  | exc c as δ' =>
    rw [q] at h
    exact h
  | fail =>
    rw [q] at h
    exact h
theorem OutS.optS {o : Option Sls} (h : OutS Γ F H0 E T (SG.optS o δ)) : ∃ ρ, o = some ρ ∧ ∀ σ H, Rel Γ F H0 ρ δ σ H → T.nx σ H := by
  cases o with
  | none => exact h.elim
  | some ρ => exact ⟨ρ, rfl, h⟩
/-- a later base -/
theorem Rel.widen (R : Rel Γ F H0' ρ δ σ H) (h : ∀ a o, H0 a = some o → ¬ Γ.DR a → (∀ ps, o ≠ .tbl ps) → H0' a = some o) : Rel Γ F H0 ρ δ σ H where
  len := R.len
  val := R.val
  own := fun k d e => by
    obtain ⟨a, h1, nf, n0, q⟩ := R.own k d e
    refine ⟨a, h1, nf, fun o e => ?_, q⟩
    by_cases ht : ∃ ps, o = .tbl ps
    · exact ht
    · exact n0 o (h a o e (fun z => nf (R.dF a z)) fun ps z => ht ⟨ps, z⟩)
  inj := R.inj
  dr := R.dr
  dF := R.dF
  ftr := R.ftr
  ext := fun a o e n t => R.ext a o (h a o e n t) n t
  nw := R.nw
  tab := R.tab
theorem OutS.narrow {r : Res Fl} (o : OutS Γ F H0 E T r) (h : ∀ a o, H0 a = some o → ¬ Γ.DR a → (∀ ps, o ≠ .tbl ps) → H0' a = some o) : OutS Γ F H0' E T r := by
  have A : ∀ {δ H}, Aft Γ δ H0' H → Aft Γ δ H0 H := fun A => ⟨fun a o e n t => A.ext a o (h a o e n t) n t, A.dr, A.nw, A.tab⟩
  cases r with
  | fail => exact o
  | exc c as δ => exact fun cls dx H a => o cls dx H (A a)
  | ok f δ =>
    cases f with
    | nx ρ => exact fun σ H R => o σ H (R.widen h)
    | bk ρ => exact fun σ H R => o σ H (R.widen h)
    | ct ρ => exact fun σ H R => o σ H (R.widen h)
    | rt d => exact fun v H a => o v H (A a)
end
section
variable {Γ : Gm} {F : Addr → Prop} {H0 H : Hp} {ρ : Sls} {δ : Dr} {σ : St}
theorem Rel.set1 {s : Sl} {v : V} (R : Rel Γ F H0 (ρ ++ [s]) δ (σ ++ [some v]) H) (i : Nat) : Rel Γ F H0 (ρ.set i s) δ (σ.set i (some v)) H := by
  have hl : ρ.length = σ.length := by
    have := R.len
    rw [List.length_append, List.length_append] at this
    simpa using this
  refine R.remap (by rw [List.length_set, List.length_set]; exact hl) (fun k => if k = i then ρ.length else k) (fun k t h n => ?_) (fun k l d e h1 h2 hf => ?_)
  · have hk : k < ρ.length := by
      have := (List.getElem?_eq_some_iff.mp h).1
      rwa [List.length_set] at this
    by_cases e : k = i
    · subst e
      rw [if_pos rfl]
      rw [List.getElem?_set_self hk] at h
      cases h
      rw [List.getElem?_set_self (by rw [← hl]; exact hk)]
      have a := app_r (xs := ρ) (ys := [s]) (j := 0)
      have b := app_rl (xs := σ) (ys := [some v]) (j := 0) hl
      rw [Nat.add_zero] at a b
      exact ⟨a, b.symm⟩
    · rw [if_neg e]
      rw [List.getElem?_set_ne (Ne.symm e)] at h ⊢
      exact ⟨app_l h, (app_at (by rw [← hl]; exact hk)).symm⟩
  · have lk : ∀ {k : Nat} {d : D}, (ρ.set i s)[k]? = some (.own d) → k < ρ.length := fun h => by
      have := (List.getElem?_eq_some_iff.mp h).1
      rwa [List.length_set] at this
    have l1 := lk h1
    have l2 := lk h2
    split at hf <;> split at hf <;> omega
theorem Rel.set2 {s u : Sl} {v w : V} (R : Rel Γ F H0 ((ρ ++ [s]) ++ [u]) δ ((σ ++ [some v]) ++ [some w]) H) {i j : Nat} (hl : ρ.length = σ.length) (hj : j < ρ.length) (hn : i ≠ j) : Rel Γ F H0 ((ρ.set i s).set j u) δ ((σ.set i (some v)).set j (some w)) H := by
  have a := R.set1 j
  rw [List.set_append_left _ _ hj, List.set_append_left _ _ (by rw [← hl]; exact hj)] at a
  have b := a.set1 i
  rw [List.set_comm _ _ (Ne.symm hn), List.set_comm _ _ (Ne.symm hn)] at b
  exact b
theorem Rel.set3 {s u x : Sl} {v w y : V} (R : Rel Γ F H0 (((ρ ++ [s]) ++ [u]) ++ [x]) δ (((σ ++ [some v]) ++ [some w]) ++ [some y]) H) {i j k : Nat} (hl : ρ.length = σ.length) (hj : j < ρ.length) (hk : k < ρ.length) (n1 : i ≠ j) (n2 : i ≠ k) (n3 : j ≠ k) :
    Rel Γ F H0 (((ρ.set i s).set j u).set k x) δ (((σ.set i (some v)).set j (some w)).set k (some y)) H := by
  have a := R.set1 k
  rw [List.set_append_left _ _ (by rw [List.length_append]; omega), List.set_append_left _ _ hk, List.set_append_left _ _ (by rw [List.length_append]; omega), List.set_append_left _ _ (by omega)] at a
  have b := a.set2 (i := i) (j := j) (by rw [List.length_set, List.length_set]; exact hl) (by rw [List.length_set]; exact hj) n1
  rw [List.set_comm _ _ (Ne.symm n2), List.set_comm _ _ (Ne.symm n3), List.set_comm _ _ (Ne.symm n2), List.set_comm _ _ (Ne.symm n3)] at b
  exact b
theorem escR_length : ∀ is : List Nat, (escR ρ is).length = ρ.length
  | [] => rfl
  | i :: is => by
    rw [escR]
    split
    · rw [List.length_set]; exact escR_length is
    · exact escR_length is
theorem Rel.esc1 (R : Rel Γ F H0 ρ δ σ H) {i : Nat} {d : D} (h : ρ[i]? = some (.own d)) : Rel Γ F H0 (ρ.set i (.val d)) δ σ H := by
  have hi := (List.getElem?_eq_some_iff.mp h).1
  have w : ∀ a, Oall F (ρ.set i (.val d)) σ a → Oall F ρ σ a := by
    rintro a (z | ⟨k, e, h1, h2⟩)
    · exact .inl z
    · by_cases hk : i = k
      · subst hk
        rw [List.getElem?_set_self hi] at h1; cases h1
      · rw [List.getElem?_set_ne hk] at h1
        exact .inr ⟨k, e, h1, h2⟩
  obtain ⟨a, ha, nf, n0, q⟩ := R.own i d h
  exact {
    len := by rw [List.length_set]; exact R.len
    val := fun k e h1 => by
      by_cases hk : i = k
      · subst hk
        rw [List.getElem?_set_self hi] at h1
        cases h1
        refine ⟨_, ha, (q.mv (Ext.refl _ _) (fun a _ n z => n (w a z)) fun _ e _ => e).rel ?_⟩
        rintro (z | ⟨k, e, h1, h2⟩)
        · exact nf z
        · by_cases hk : i = k
          · subst hk
            rw [List.getElem?_set_self hi] at h1; cases h1
          · rw [List.getElem?_set_ne hk] at h1
            exact hk (R.inj i k d e a h h1 ha h2)
      · rw [List.getElem?_set_ne hk] at h1
        obtain ⟨v, h2, r⟩ := R.val k e h1
        exact ⟨v, h2, r.less w⟩
    own := fun k e h1 => by
      by_cases hk : i = k
      · subst hk
        rw [List.getElem?_set_self hi] at h1; cases h1
      · rw [List.getElem?_set_ne hk] at h1
        obtain ⟨b, h2, nf, n0, q⟩ := R.own k e h1
        exact ⟨b, h2, nf, n0, q.mv (Ext.refl _ _) (fun a _ n z => n (w a z)) fun _ e _ => e⟩
    inj := fun k l e f b h1 h2 h3 h4 => by
      by_cases hk : i = k
      · subst hk
        rw [List.getElem?_set_self hi] at h1; cases h1
      · by_cases hl : i = l
        · subst hl
          rw [List.getElem?_set_self hi] at h2; cases h2
        · rw [List.getElem?_set_ne hk] at h1
          rw [List.getElem?_set_ne hl] at h2
          exact R.inj k l e f b h1 h2 h3 h4
    dr := R.dr
    dF := R.dF
    ftr := R.ftr
    ext := R.ext
    nw := R.nw
    tab := R.tab }
theorem Rel.esc (R : Rel Γ F H0 ρ δ σ H) : ∀ is : List Nat, Rel Γ F H0 (escR ρ is) δ σ H
  | [] => R
  | i :: is => by
    rw [escR]
    split
    · rename_i d h; exact (Rel.esc R is).esc1 h
    · exact Rel.esc R is
/-- a slot's own container is rewritten -/
theorem Rel.rewriteG (R : Rel Γ F H0 ρ δ σ H) {i : Nat} {d e : D} {a : Addr} {u : HO} (h : ρ[i]? = some (.own d)) (ha : σ[i]? = some (some (.ref a))) (q : OwnD Γ (upd H a u) (Oall F ρ σ) e a) (hd : ∃ o, H a = some o ∧ (∀ ps, o ≠ .tbl ps) ∧ ∀ c q, o ≠ LamX.CodeO c q) (hu : ∀ ps, u ≠ .tbl ps) :
    Rel Γ F H0 (ρ.set i (.own e)) δ σ (upd H a u) := by
  have hi := (List.getElem?_eq_some_iff.mp h).1
  obtain ⟨a', ha', nf, n0, _⟩ := R.own i d h
  rw [ha] at ha'
  cases ha'
  have aO : OwnAt ρ σ a := ⟨i, d, h, ha⟩
  have w : ∀ b, Oall F (ρ.set i (.own e)) σ b → Oall F ρ σ b := by
    rintro b (z | ⟨k, f, h1, h2⟩)
    · exact .inl z
    · by_cases hk : i = k
      · subst hk
        exact .inr ⟨i, d, h, h2⟩
      · rw [List.getElem?_set_ne hk] at h1
        exact .inr ⟨k, f, h1, h2⟩
  have ex : Ext (Oall F ρ σ) H (upd H a u) := fun b o e n _ => by
    have : b ≠ a := fun z => n (by rw [z]; exact .inr aO)
    rw [upd_ne this]; exact e
  have nd : ¬ Γ.DR a := fun z => nf (R.dF a z)
  exact {
    len := by rw [List.length_set]; exact R.len
    val := fun k f h1 => by
      by_cases hk : i = k
      · subst hk
        rw [List.getElem?_set_self hi] at h1; cases h1
      · rw [List.getElem?_set_ne hk] at h1
        obtain ⟨v, h2, r⟩ := R.val k f h1
        exact ⟨v, h2, r.mv ex fun b _ n z => n (w b z)⟩
    own := fun k f h1 => by
      by_cases hk : i = k
      · subst hk
        rw [List.getElem?_set_self hi] at h1
        cases h1
        exact ⟨a, ha, nf, n0, q.mv (Ext.refl _ _) (fun b _ n z => n (w b z)) fun _ e _ => e⟩
      · rw [List.getElem?_set_ne hk] at h1
        obtain ⟨b, h2, nf, n0, r⟩ := R.own k f h1
        refine ⟨b, h2, nf, n0, r.mv ex (fun b _ n z => n (w b z)) fun o e _ => ?_⟩
        have : b ≠ a := fun z => hk (R.inj i k d f a h h1 ha (by rw [← z]; exact h2))
        rw [upd_ne this]
        exact e
    inj := fun k l f g b h1 h2 h3 h4 => by
      have old : ∀ {k : Nat} {f : D}, (ρ.set i (.own e))[k]? = some (.own f) → ∃ f, ρ[k]? = some (.own f) := by
        intro k f h1
        by_cases hk : i = k
        · subst hk; exact ⟨d, h⟩
        · rw [List.getElem?_set_ne hk] at h1; exact ⟨f, h1⟩
      obtain ⟨f', h1⟩ := old h1
      obtain ⟨g', h2⟩ := old h2
      exact R.inj k l f' g' b h1 h2 h3 h4
    dr := R.dr.upd nd
    dF := R.dF
    ftr := fun b hb => by
      have : b ≠ a := fun z => nf (z ▸ hb)
      rw [upd_ne this]
      exact R.ftr b hb
    ext := fun b o e n t => by
      have : b ≠ a := fun z => by
        subst z
        obtain ⟨ps, z⟩ := n0 o e
        exact t ps z
      rw [upd_ne this]
      exact R.ext b o e n t
    nw := fun b o e => by
      by_cases hb : b = a
      · rw [hb]
        obtain ⟨o, h, _, _⟩ := hd
        exact R.nw a _ h
      · rw [upd_ne hb] at e; exact R.nw b o e
    tab := by
      obtain ⟨o, h, t, t2⟩ := hd
      exact tabs_updG R.tab h t t2 }
theorem Rel.rewrite (R : Rel Γ F H0 ρ δ σ H) {i : Nat} {d e : D} {a : Addr} {u : HO} (h : ρ[i]? = some (.own d)) (ha : σ[i]? = some (some (.ref a))) (q : OwnD Γ (upd H a u) (Oall F ρ σ) e a) (hd : (∃ vs, H a = some (.lst vs)) ∨ ∃ vs, H a = some (.dK vs)) (hu : ∀ ps, u ≠ .tbl ps) :
    Rel Γ F H0 (ρ.set i (.own e)) δ σ (upd H a u) := R.rewriteG h ha q (by
  rcases hd with ⟨vs, h⟩ | ⟨vs, h⟩
  · exact ⟨_, h, fun _ z => (by cases z), fun _ _ z => by unfold LamX.CodeO at z; cases z⟩
  · exact ⟨_, h, fun _ z => (by cases z), fun _ _ z => by unfold LamX.CodeO at z; cases z⟩) hu
end
end SG

set_option Elab.async false
set_option linter.all false
set_option maxRecDepth 100000
set_option maxHeartbeats 4000000
namespace SG
open PySem PySem.Spec L2
open PyProof.Rows hiding St
section
variable {X : Cx} {st : Stmt} {sts : List Stmt}
theorem _root_.L2.PS.mono {t t' : TS} (h : PS X st t) (k : ∀ T σ H, t' T σ H → t T σ H) : PS X st t' := ⟨fun pins s σ H D I q => h.run pins s σ H D I (k D σ H q)⟩
theorem _root_.L2.PSs.mono {t t' : TS} (h : PSs X sts t) (k : ∀ T σ H, t' T σ H → t T σ H) : PSs X sts t' := ⟨fun pins s σ H D I q => h.run pins s σ H D I (k D σ H q)⟩
theorem _root_.L2.PS.nw {t : TS} (h : PS X st t) : PS X st (fun T σ H => t ⟨fun σ' H' => NW X.K H' → T.nx σ' H', T.rt, T.bk, T.ct⟩ σ H) := by
  refine ⟨fun pins s σ H D I q => thn (h.run pins s σ H _ I q) fun f s1 q => ?_⟩
  cases f with
  | next => obtain ⟨σ', H', I', q⟩ := q; exact ⟨σ', H', I', q (inv_nw I')⟩
  | ret v => exact q
  | brk => exact q
  | cont => exact q
end
section
variable {S : Sta} {C : Ctx} {E : XK} {X : Cx} {st : Stmt} {sts body orelse : List Stmt} {s u a b : DS} {e : Expr} {pos : Pos} {z z1 z2 z3 : DZ} {t : DE} {σ : St} {H : Hp} {Q : VK} {T : Ends} {i j k : Nat} {m : DM} {tt : DT}
/-! ### readings -/
theorem rdZ_V (h : rdZ S C E (zV t) σ H Q) : rdE S C E t σ H Q := by
  obtain ⟨Γ, F, H0, ρ, δ, hS, R, o⟩ := h
  exact ⟨Γ, F, H0, ρ, δ, hS, R, o.bind.imp fun d δ1 H1 A o1 v r => o1.pure H1 (R.aft A).refl v r⟩
theorem rdZ_O (h : rdZ S C E (zO t) σ H Q) : rdF S C E t σ H Q := by
  obtain ⟨Γ, F, H0, ρ, δ, hS, R, o⟩ := h
  exact ⟨Γ, F, H0, ρ, δ, hS, R, o.bind.imp fun d δ1 H1 A o1 a hf q => o1.pure H1 (R.aft A).refl _ ⟨a, rfl, fr_back (Ext.refl _ _) R.dr hf, q⟩⟩
theorem zE (h : PE X e (rdE S C E t)) : PE X e (rdZ S C E (zV t)) := h.mono fun _ _ _ => rdZ_V
theorem zF (h : PE X e (rdF S C E t)) : PE X e (rdZ S C E (zO t)) := h.mono fun _ _ _ => rdZ_O
theorem rdS_set (h : rdS S C E (dSet i z) T σ H) : rdZ S C E z σ H (fun v H' => gName i v σ H' T.nx) := by
  obtain ⟨Γ, F, H0, ρ, δ, hS, R, o⟩ := h
  exact ⟨Γ, F, H0, ρ, δ, hS, R, (o.bindG R.ext).imp fun s δ1 H1 A o1 v z => o1 _ _ ((R.push A z).set1 i)⟩
theorem rdS_setM (h : rdS S C E (dSetM i m) T σ H) : rdM S C E m σ H (fun v H' => gName i v σ H' T.nx) := by
  obtain ⟨Γ, F, H0, ρ, δ, hS, R, o⟩ := h
  refine ⟨Γ, F, H0, ρ, δ, hS, R, ?_⟩
  unfold dSetM at o
  rw [bind_eq] at o
  cases q : m C ρ δ with
  | ok r δ1 =>
    rw [q] at o
    exact fun v H1 R1 r1 => o _ _ ((R1.pushVal r1).set1 i)
  | exc c as δ1 => rw [q] at o; exact o
  | fail => rw [q] at o; exact o
/-! ### statements -/
theorem s_nil : PSs X [] (rdS S C E dNop) := pss_nil.mono fun T σ H ⟨Γ, F, H0, ρ, δ, hS, R, o⟩ => o σ H R
theorem s_pass : PS X (.Pass pos) (rdS S C E dNop) := ps_pass.mono fun T σ H ⟨Γ, F, H0, ρ, δ, hS, R, o⟩ => o σ H R
theorem s_doc {x j pos pos'} : PS X (.Expr (.Constant (.str x) j pos) pos') (rdS S C E dNop) := ps_doc.mono fun T σ H ⟨Γ, F, H0, ρ, δ, hS, R, o⟩ => o σ H R
theorem s_break : PS X (.Break pos) (rdS S C E dBreak) := ps_break.mono fun T σ H ⟨Γ, F, H0, ρ, δ, hS, R, o⟩ => o σ H R
theorem s_cont : PS X (.Continue pos) (rdS S C E dCont) := ps_continue.mono fun T σ H ⟨Γ, F, H0, ρ, δ, hS, R, o⟩ => o σ H R
theorem s_fail : PS X st (rdS S C E dFail) := ps_never.mono fun T σ H ⟨Γ, F, H0, ρ, δ, hS, R, o⟩ => o
theorem rdS_seq (h : rdS S C E (dSeq s u) T σ H) : tSeq (rdS S C E s) (rdS S C E u) T σ H := by
  obtain ⟨Γ, F, H0, ρ, δ, hS, R, o⟩ := h
  exact ⟨Γ, F, H0, ρ, δ, hS, R, o.bindS (fun ρ' δ' o σ' H' R' => ⟨Γ, F, H0, ρ', δ', hS, R', o⟩) (fun _ _ o => o) (fun _ _ o => o) fun _ _ o => o⟩
theorem s_cons (h1 : PS X st (rdS S C E s)) (h2 : PSs X sts (rdS S C E u)) : PSs X (st :: sts) (rdS S C E (dSeq s u)) := (pss_cons h1 h2).mono fun _ _ _ => rdS_seq
theorem s_one (h1 : PS X st (rdS S C E s)) : PSs X [st] (rdS S C E s) := pss_one h1
theorem s_set (h : PS X st (tAsg (rdZ S C E z) (gName i))) : PS X st (rdS S C E (dSet i z)) := h.mono fun _ _ _ => rdS_set
theorem s_setM (h : PS X st (tAsg (rdM S C E m) (gName i))) : PS X st (rdS S C E (dSetM i m)) := h.mono fun _ _ _ => rdS_setM
theorem s_setLc {it : DI} {g : Tg} {te : DE} {vs : List Nat} (hK : X.K = S.K) (hv : ∀ i ∈ slT g, i ∈ vs) (h : PS X st (tAsg (tLc (rdI false S C E it) (gD S g) (rdT S C exF tt) (rdE S C exF te) vs) (gName i))) : PS X st (rdS S C E (dSet i (zO (dLc it g tt te vs)))) :=
  h.nw.mono fun T σ H q => hK ▸ lc_read hv (rdZ_O (rdS_set q))
theorem s_setLcV {it : DI} {g : Tg} {te : DE} {vs : List Nat} (hK : X.K = S.K) (hv : ∀ i ∈ slT g, i ∈ vs) (h : PS X st (tAsg (tLc (rdI false S C E it) (gD S g) (rdT S C exF tt) (rdE S C exF te) vs) (gName i))) : PS X st (rdS S C E (dSet i (zV (dLc it g tt te vs)))) :=
  h.nw.mono fun T σ H q => hK ▸ lc_read hv (by
    obtain ⟨Γ, F, H0, ρ, δ, hS, R, o⟩ := rdZ_V (rdS_set q)
    exact ⟨Γ, F, H0, ρ, δ, hS, R, o.imp fun d δ' H' A q a hn ow => q _ ((ow.mv (Ext.refl _ _) (fun b _ n z => n (.inl z)) fun _ e _ => e).rel (R.freshF hn))⟩)
theorem s_par2 (h : PS X st (tPar i j (tCons (rdZ S C E z1) (tCons (rdZ S C E z2) tNil)))) : PS X st (rdS S C E (dPar2 i j z1 z2)) := h.mono fun T σ H ⟨Γ, F, H0, ρ, δ, hS, R, o⟩ =>
  ⟨Γ, F, H0, ρ, δ, hS, R, (o.bindG R.ext).imp fun s δ1 H1 A o1 v p1 => by
    have R1 := R.push A p1
    have Rh := R1.hide R.len
    exact ⟨Γ, _, H0, ρ, δ1, hS, Rh, (o1.bindG (R.aft A).ext).imp fun u δ2 H2 A2 o2 w p2 => by
      obtain ⟨ρ', e, q⟩ := o2.optS
      split at e
      · rename_i hc
        cases e
        exact ⟨v, w, rfl, q _ _ ((R1.push A2 (PZ.of R.len p2)).set2 R.len hc.2.1 hc.2.2)⟩
      · cases e⟩⟩
theorem s_par3 (h : PS X st (tPar3 i j k (tCons (rdZ S C E z1) (tCons (rdZ S C E z2) (tCons (rdZ S C E z3) tNil))))) : PS X st (rdS S C E (dPar3 i j k z1 z2 z3)) := h.mono fun T σ H ⟨Γ, F, H0, ρ, δ, hS, R, o⟩ =>
  ⟨Γ, F, H0, ρ, δ, hS, R, (o.bindG R.ext).imp fun s δ1 H1 A o1 v p1 => by
    have R1 := R.push A p1
    have Rh := R1.hide R.len
    exact ⟨Γ, _, H0, ρ, δ1, hS, Rh, (o1.bindG (R.aft A).ext).imp fun u δ2 H2 A2 o2 w p2 => by
      have R2 := R1.push A2 (PZ.of R.len p2)
      rw [List.append_assoc, List.append_assoc] at R2
      have Rh2 := R2.hide R.len
      exact ⟨Γ, _, H0, ρ, δ2, hS, Rh2, (o2.bindG ((R.aft A).aft A2).ext).imp fun x δ3 H3 A3 o3 y p3 => by
        obtain ⟨ρ', e, q⟩ := o3.optS
        split at e
        · rename_i hc
          cases e
          have R3 := R2.push A3 (PZ.of R.len p3)
          rw [← List.append_assoc, ← List.append_assoc] at R3
          exact ⟨v, w, y, rfl, q _ _ (R3.set3 R.len hc.2.1 hc.2.2.1 hc.2.2.2.1 hc.2.2.2.2.1 hc.2.2.2.2.2)⟩
        · cases e⟩⟩⟩
theorem s_asg {g : Tg} (h : PS X st (tAsg (rdE S C E t) (gD S g))) : PS X st (rdS S C E (dAsg g t)) := h.mono fun T σ H ⟨Γ, F, H0, ρ, δ, hS, R, o⟩ =>
  ⟨Γ, F, H0, ρ, δ, hS, R, (o.bindG R.ext).imp fun d δ1 H1 A o1 v r => by
    obtain ⟨ρ', e, q⟩ := o1.optS
    exact ⟨Γ, F, H0, ρ, ρ', δ1, d, hS, R.aft A, r, e, fun σ' R' _ _ => q σ' H1 R'⟩⟩
theorem s_asgM {g : Tg} (h : PS X st (tAsg (rdM S C E m) (gD S g))) : PS X st (rdS S C E (dAsgM g m)) := h.mono fun T σ H ⟨Γ, F, H0, ρ, δ, hS, R, o⟩ => by
  refine ⟨Γ, F, H0, ρ, δ, hS, R, ?_⟩
  unfold dAsgM at o
  rw [bind_eq] at o
  cases q : m C ρ δ with
  | ok r δ1 =>
    rw [q] at o
    obtain ⟨ρ', e, q⟩ := o.optS
    exact fun v H1 R1 r1 => ⟨Γ, F, H0, _, ρ', δ1, _, hS, R1, r1, e, fun σ' R' _ _ => q σ' H1 R'⟩
  | exc c as δ1 => rw [q] at o; exact o
  | fail => rw [q] at o; exact o
theorem s_drop (h : PS X st (tDrop (rdE S C E t))) : PS X st (rdS S C E (dDrop t)) := h.mono fun T σ H ⟨Γ, F, H0, ρ, δ, hS, R, o⟩ =>
  ⟨Γ, F, H0, ρ, δ, hS, R, (o.bindG R.ext).imp fun d δ1 H1 A o1 v r => o1 _ _ (R.aft A)⟩
theorem s_ret (h : PE X e (rdE S C E t)) : PS X (.Return (some e) pos) (rdS S C E (dRet t)) := (ps_ret h).mono fun T σ H ⟨Γ, F, H0, ρ, δ, hS, R, o⟩ =>
  ⟨Γ, F, H0, ρ, δ, hS, R, (o.bindG R.ext).imp fun d δ1 H1 A o1 v r => o1 _ _ ⟨R.ext.trans A.ext, A.dr, A.nw, A.tab⟩ (r.less fun a => .inl)⟩
theorem s_retN : PS X (.Return none pos) (rdS S C E dRetN) := ps_retN.mono fun T σ H ⟨Γ, F, H0, ρ, δ, hS, R, o⟩ => o _ _ ⟨R.ext, R.dr, R.nw, R.tab⟩ .non
theorem s_if {c : Expr} {p q : List Stmt} (hc : PT X c (rdT S C E tt)) (ha : PSs X p (rdS S C E a)) (hb : PSs X q (rdS S C E b)) : PS X (.If c p q pos) (rdS S C E (dIfS tt a b)) := (ps_if hc ha hb).mono fun T σ H ⟨Γ, F, H0, ρ, δ, hS, R, o⟩ =>
  ⟨Γ, F, H0, ρ, δ, hS, R, (o.bindG R.ext).imp fun k δ1 H1 A o1 => by
    cases k with
    | true => exact ⟨Γ, F, H0, ρ, δ1, hS, R.aft A, o1⟩
    | false => exact ⟨Γ, F, H0, ρ, δ1, hS, R.aft A, o1⟩⟩
theorem s_esc (is : List Nat) (h : PS X st (rdS S C E s)) : PS X st (rdS S C E (dEsc is s)) := h.mono fun T σ H ⟨Γ, F, H0, ρ, δ, hS, R, o⟩ => ⟨Γ, F, H0, _, δ, hS, R.esc is, o⟩
theorem s_mov (h : PS X st (tAsg (tVar j) (gName i))) : PS X st (rdS S C E (dMov i j)) := h.mono fun T σ H ⟨Γ, F, H0, ρ, δ, hS, R, o⟩ => by
  obtain ⟨ρ', e, q⟩ := o.optS
  unfold movR at e
  split at e
  · rename_i d hs
    split at e
    · rename_i hn
      cases e
      have hj : j < ρ.length := (List.getElem?_eq_some_iff.mp hs).1
      obtain ⟨v, hv, _⟩ := R.own j d hs
      refine ⟨_, hv, q _ _ (R.remap (by rw [List.length_set, List.length_set, List.length_set]; exact R.len) (fun k => if k = i then j else k) (fun k s h n => ?_) fun k l d1 e h1 h2 hf => ?_)⟩
      · by_cases k1 : j = k
        · subst k1
          rw [List.getElem?_set_self (by rw [List.length_set]; exact hj)] at h
          cases h
          exact absurd rfl n
        · rw [List.getElem?_set_ne k1] at h
          by_cases k2 : i = k
          · subst k2
            have hi : i < ρ.length := by
              have := (List.getElem?_eq_some_iff.mp h).1
              rwa [List.length_set] at this
            rw [List.getElem?_set_self hi] at h
            cases h
            rw [if_pos rfl, List.getElem?_set_self (by rw [← R.len]; exact hi)]
            exact ⟨hs, hv.symm⟩
          · rw [List.getElem?_set_ne k2] at h
            rw [if_neg (Ne.symm k2), List.getElem?_set_ne k2]
            exact ⟨h, rfl⟩
      · have nj : ∀ {k : Nat} {f : D}, ((ρ.set i (Sl.own d)).set j .no)[k]? = some (.own f) → k ≠ j := fun {k f} h z => by
          subst z
          rw [List.getElem?_set_self (by rw [List.length_set]; exact hj)] at h
          cases h
        have n1 := nj h1
        have n2 := nj h2
        split at hf <;> split at hf <;> omega
    · cases e
  · cases e
/-! ### loops -/
theorem afterB_out {Γ : Gm} {F : Addr → Prop} {H0 : Hp} {N : St → Hp → Prop} {b : M Fl} {k : Sls → M Fl} {δ : Dr} (h : OutS Γ F H0 E T ((b >>= fun f => afterB f k) δ)) (n : ∀ ρ δ, OutS Γ F H0 E T (k ρ δ) → ∀ σ H, Rel Γ F H0 ρ δ σ H → N σ H) :
    OutS Γ F H0 E { T with nx := N, ct := N, bk := T.nx } (b δ) :=
  h.bindS (fun ρ δ o σ H R => n ρ δ o σ H R) (fun ρ δ o σ H R => o σ H R) (fun ρ δ o σ H R => n ρ δ o σ H R) fun d δ o => o
theorem s_while {c : Expr} (hp : PassesOwn (model X.prog X.w) X.A X.env X.xe) (hc : PT X c (rdT S C E tt)) (hb : PSs X body (rdS S C E b)) : PS X (.While c body [] pos) (rdS S C E (dWhile tt b)) := (ps_while hp hc hb).mono fun T σ H ⟨Γ, F, H0, ρ, δ, hS, R, o⟩ => by
  refine ⟨fun m σ H => ∃ ρ δ, Rel Γ F H0 ρ δ σ H ∧ OutS Γ F H0 E T (whN tt b C m ρ δ), ?_, ?_⟩
  · unfold dWhile at o
    split at o
    · exact ⟨_, ρ, δ, R, o⟩
    · exact o.elim
  · rintro m σ H ⟨ρ, δ, R, o⟩
    cases m with
    | zero => exact o.elim
    | succ m =>
      unfold whN at o
      refine ⟨Γ, F, H0, ρ, δ, hS, R, (o.bindG R.ext).imp fun k δ1 H1 A o1 => ?_⟩
      cases k with
      | false =>
        show if false = true then _ else _
        rw [if_neg Bool.false_ne_true]
        exact o1 _ _ (R.aft A)
      | true =>
        show if true = true then _ else _
        rw [if_pos rfl]
        exact ⟨fun σ H => ∃ ρ δ, Rel Γ F H0 ρ δ σ H ∧ OutS Γ F H0 E T (whN tt b C m ρ δ), fun σ' H' q => ⟨m, Nat.lt_succ_self m, q⟩, Γ, F, H0, ρ, δ1, hS, R.aft A, afterB_out o1 fun ρ δ o σ H R => ⟨ρ, δ, R, o⟩⟩
open Classical in
theorem s_for {it : DI} {g : Tg} {tg iter : Expr} (hp : PassesOwn (model X.prog X.w) X.A X.env X.xe) (hc : X.calm = true) (hi : PI X tg iter (rdI true S C E it)) (hg : PG X tg (gD S g)) (hb : PSs X body (rdS S C E b)) (hs : ∀ x, foldedSetIterable iter X.env x = pure x) :
    PS X (.For tg iter body [] pos) (rdS S C E (dFor it g b)) := (ps_for hp hc hi hg hb hs).mono fun T σ H ⟨Γ, F, H0, ρ, δ, hS, R, o⟩ =>
  ⟨Γ, F, H0, ρ, δ, hS, R, (o.bindG R.ext).imp fun ds δ1 H1 A o1 J wk => by
    have R1 := R.aft A
    obtain ⟨G, Y, w, wg, wy⟩ := wk.ex
    let H2 : Hp := fun a => if OwnAt ρ σ a then none else H1 a
    have up : ∀ a o, H0 a = some o → ¬ Γ.DR a → (∀ ps, o ≠ .tbl ps) → H2 a = some o := fun a o e n t => by
      have e1 := R1.ext a o e n t
      have : ¬ OwnAt ρ σ a := fun ⟨i, d, h1, h2⟩ => by
        obtain ⟨a', h3, _, n0, _⟩ := R1.own i d h1
        rw [h2] at h3
        cases h3
        obtain ⟨ps, z⟩ := n0 o e
        exact t ps z
      show (if OwnAt ρ σ a then none else H1 a) = some o
      rw [if_neg this]; exact e1
    have R2 : Rel Γ F H2 ρ δ1 σ H1 := {
      len := R1.len
      val := R1.val
      own := fun k d h => by
        obtain ⟨a, h1, nf, n0, q⟩ := R1.own k d h
        refine ⟨a, h1, nf, fun o e => ?_, q⟩
        have e : (if OwnAt ρ σ a then none else H1 a) = some o := e
        rw [if_pos ⟨k, d, h, h1⟩] at e
        cases e
      inj := R1.inj
      dr := R1.dr
      dF := R1.dF
      ftr := R1.ftr
      ext := fun a o e n t => by
        have e : (if OwnAt ρ σ a then none else H1 a) = some o := e
        split at e
        · cases e
        · exact e
      nw := R1.nw
      tab := R1.tab }
    -- what stands at the start and is nobody's own stands all along
    have st : ∀ {ρ' δ' σ' H'}, Rel Γ F H2 ρ' δ' σ' H' → Ext (selS true Γ (Oall F ρ σ)) H1 H' := fun {ρ' δ' σ' H'} R' a o e n t => by
      refine R'.ext a o ?_ (fun z => n (.inl z)) t
      show (if OwnAt ρ σ a then none else H1 a) = some o
      rw [if_neg fun z => n (.inr ⟨rfl, .inr z⟩)]; exact e
    refine for_it w (fun i σ' H' => ∃ ρ' δ', Rel Γ F H2 ρ' δ' σ' H' ∧ OutS Γ F H2 E T (forM' g b C (ds.drop i) ρ' δ')) ⟨ρ, δ1, R2, o1.narrow up⟩ ?_ ?_ ?_
    · rintro i σ' H' hi ⟨ρ', δ', R', _⟩
      exact wg H' (st R')
    · rintro i x σ' H3 H4 hi ⟨ρ', δ', R', o'⟩ y
      have hd : ds[i]? = some ds[i] := List.getElem?_eq_getElem hi
      obtain ⟨sm, nw, rx⟩ := wy i H3 x H4 ds[i] (Oall F ρ' σ') (st R') (fun a t n => by
        rintro (z | ⟨k, d, h1, h2⟩)
        · exact n (.inl z)
        · obtain ⟨a', h3, _, n0, q⟩ := R'.own k d h1
          rw [h2] at h3
          cases h3
          rcases t with ⟨o, e, t⟩ | ⟨o, e⟩
          · have : H2 a = some o := by
              show (if OwnAt ρ σ a then none else H1 a) = some o
              rw [if_neg fun z => n (.inr z)]; exact e
            obtain ⟨ps, z⟩ := n0 o this
            exact t ps z
          · obtain ⟨o', e'⟩ := q.there
            rw [R'.nw a o' e'] at e
            cases e) (fun a z => let ⟨o, e, _⟩ := R'.otr a z; ⟨o, e⟩) y hd
      have R4 := R'.aft (aft_same sm R'.dr R'.tab nw)
      rw [List.drop_eq_getElem_cons hi] at o'
      unfold forM' at o'
      cases hb : bindT g ds[i] ρ' with
      | none => rw [hb] at o'; exact o'.elim
      | some ρ1 =>
        rw [hb] at o'
        exact ⟨Γ, F, H2, ρ', ρ1, δ', _, hS, R4, rx, hb, fun σ2 Rb _ _ => ⟨Γ, F, H2, ρ1, δ', hS, Rb, afterB_out o' fun ρ δ o σ H R => ⟨ρ, δ, R, o⟩⟩⟩
    · rintro σ' H' ⟨ρ', δ', R', o'⟩
      rw [List.drop_length] at o'
      exact o' σ' H' R'⟩
end
end SG

set_option Elab.async false
set_option linter.all false
set_option maxRecDepth 100000
set_option maxHeartbeats 4000000
namespace SG
open PySem PySem.Spec L2
open PyProof.Rows hiding St
/-! ### what changes a slot's own container -/
def ownL (ρ : Sls) (i : Nat) : Option (List D) := match ρ[i]? with
  | some (.own (.lst ds)) => some ds
  | _ => none
def popL (ρ : Sls) (i : Nat) : Option (D × Sls) := (ownL ρ i).bind fun ds => ds[ds.length - 1]?.map fun d => (d, ρ.set i (.own (.lst ds.dropLast)))
def dPop (i : Nat) : DM := fun _ ρ => M.opt (popL ρ i)
def popAtL (ρ : Sls) (i : Nat) (k : D) : Option (D × Sls) := match k with
  | .int k => (ownL ρ i).bind fun ds => if 0 ≤ k ∧ k < 2 ^ 63 then ds[k.toNat]?.map fun d => (d, ρ.set i (.own (.lst (ds.eraseIdx k.toNat)))) else none
  | _ => none
def dPopAt (i : Nat) (e : DE) : DM := fun C ρ => match ownL ρ i with
  | some _ => do
    let k ← e C ρ
    M.opt (popAtL ρ i k)
  | none => fun _ => .fail
def appL (ρ : Sls) (i : Nat) (d : D) : Option Sls := (ownL ρ i).bind fun ds => if ds.length < LINE then some (ρ.set i (.own (.lst (ds ++ [d])))) else none
def dApp (i : Nat) (m : DM) : DS := fun C ρ => match ownL ρ i with
  | some _ => do
    let r ← m C ρ
    optS (appL r.2 i r.1)
  | none => fun _ => .fail
def extL (ρ : Sls) (i : Nat) (d : D) : Option Sls := match d with
  | .lst es => (ownL ρ i).bind fun ds => if ds.length + es.length ≤ LINE then some (ρ.set i (.own (.lst (ds ++ es)))) else none
  | _ => none
def dExt (i : Nat) (e : DE) : DS := fun C ρ => match ownL ρ i with
  | some _ => do
    let d ← e C ρ
    optS (extL ρ i d)
  | none => fun _ => .fail
def setSem : D → D → D → Option D
  | .lst ds, .int k, d => (ixN ds.length k).map fun j => .lst (ds.set j d)
  | .dct ks, k, d => if (dKey k).isSome ∧ ks.length < LINE then some (.dct (dput ks k d)) else if ks = [] ∧ (nkey k).isSome then some (.dcn [(k, d)]) else none
  | .dcn ks, k, d => (nkey k).bind fun κ => if ks.length < LINE then some (.dcn (nput ks κ k d)) else none
  | _, _, _ => none
def setL (ρ : Sls) (i : Nat) (k d : D) : Option Sls := match ρ[i]? with
  | some (.own c) => (setSem c k d).map fun c' => ρ.set i (.own c')
  | _ => none
def dSetItem (i : Nat) (ix : DE) (e : DZ) : DS := fun C ρ => do
  let s ← e C ρ
  match s, ρ[i]? with
  | .val d, some (.own _) => do
    let k ← ix C ρ
    optS (setL ρ i k d)
  | _, _ => fun _ => .fail
theorem ownL_some {ρ : Sls} {i : Nat} {ds : List D} (h : ownL ρ i = some ds) : ρ[i]? = some (.own (.lst ds)) := by
  unfold ownL at h
  split at h
  · rename_i h'; cases h; exact h'
  · cases h
section
variable {S : Sta} {C : Ctx} {E : XK} {X : Cx} {st : Stmt} {e o : Expr} {pos apos cpos : Pos} {te t ti : DE} {m : DM} {i : Nat} {z : DZ}
theorem m_of (h : PE X e (rdE S C E t)) : PE X e (rdM S C E (mV t)) := h.mono fun σ H Q ⟨Γ, F, H0, ρ, δ, hS, R, o⟩ => by
  refine ⟨Γ, F, H0, ρ, δ, hS, R, ?_⟩
  unfold mV at o
  rw [bind_eq] at o
  cases q : t C ρ δ with
  | ok d δ1 =>
    rw [q] at o
    exact fun H1 A v r => o v H1 (R.aft A) r
  | exc c as δ1 =>
    rw [q] at o
    exact fun cls dx H1 A e => o cls dx H1 ⟨R.ext.trans A.ext, A.dr, A.nw, A.tab⟩ e
  | fail => rw [q] at o; exact o
theorem m_pop (ho : PE X o (tVar i)) (hb : attributeBase o "pop" X.env (eval o X.env) = eval o X.env) (hl : (apos.endLine == cpos.line) = true) : PE X (.Call (.Attribute o "pop" apos) [] [] cpos) (rdM S C E (dPop i)) :=
  (pe_bm0 F.plainAttrs_list F.slot_list_pop F.type_list_pop mt_pop ho hb hl).mono fun σ H Q ⟨Γ, F, H0, ρ, δ, hS, R, o⟩ => by
    unfold dPop at o
    cases hp : popL ρ i with
    | none => rw [hp] at o; exact o.elim
    | some r =>
      rw [hp] at o
      obtain ⟨ds, h1, h2⟩ := Option.bind_eq_some_iff.mp hp
      obtain ⟨d, h3, rfl⟩ := Option.map_eq_some_iff.mp h2
      have hi := ownL_some h1
      obtain ⟨a, ha, nf, n0, vs, hv, rs⟩ := R.own i _ hi
      refine ⟨_, ha, .inl ⟨rfl, vs, SqL.of hv⟩, ?_⟩
      obtain ⟨y, hy, ry⟩ := rs.get h3
      rw [rs.length] at hy
      have ex : Ext (Oall F ρ σ) H (upd H a (.lst vs.dropLast)) := fun b o e n _ => by
        have : b ≠ a := fun z => n (by rw [z]; exact .inr ⟨i, _, hi, ha⟩)
        rw [upd_ne this]; exact e
      refine ⟨a, vs, y, rfl, rfl, hv, hy, o y _ (R.rewrite hi ha ⟨_, upd_same, rs.dropLast.ext ex⟩ (.inl ⟨_, hv⟩) fun _ z => by cases z) ?_⟩
      refine ry.mv ex fun b _ n z => n ?_
      rcases z with z | ⟨k, f, z1, z2⟩
      · exact .inl z
      · by_cases hk : i = k
        · subst hk; exact .inr ⟨i, _, hi, z2⟩
        · rw [List.getElem?_set_ne hk] at z1
          exact .inr ⟨k, f, z1, z2⟩
theorem m_popAt (ho : PE X o (tVar i)) (he : PE X e (rdE S C E te)) (hb : attributeBase o "pop" X.env (eval o X.env) = eval o X.env)
    (hf : ((backTo cpos (starEach [e] X.env)).all (fun x => !x.1) && (backToKw cpos (keywordEach [] X.env)).all (fun x => x.1.isSome) && decide ([e].length + ([] : List Keyword).length + (if ([] : List Keyword).isEmpty then 0 else 1) < 30)) = true)
    (hl : (apos.endLine == cpos.line) = true) (hs : starEach [e] X.env = (false, eval e X.env) :: starEach [] X.env) (hp : (backTo cpos (starEach [] X.env)).any (·.1) = false) :
    PE X (.Call (.Attribute o "pop" apos) [e] [] cpos) (rdM S C E (dPopAt i te)) :=
  (pe_bm F.plainAttrs_list F.slot_list_pop F.type_list_pop mt_popAt ho (pa_cons he pa_nil hs) hb hf hl hs hp).mono fun σ H Q ⟨Γ, F, H0, ρ, δ, hS, R, o⟩ => by
    unfold dPopAt at o
    cases h1 : ownL ρ i with
    | none => rw [h1] at o; exact o.elim
    | some ds =>
      rw [h1] at o
      have hi := ownL_some h1
      obtain ⟨a, ha, nf, n0, vs, hv, rs⟩ := R.own i _ hi
      refine ⟨_, ha, .inl ⟨rfl, vs, SqL.of hv⟩, Γ, F, H0, ρ, δ, hS, R, ?_⟩
      simp only [bind_eq] at o
      cases q : te C ρ δ with
      | fail => rw [q] at o; exact o
      | exc c as δ1 =>
        rw [q] at o
        exact fun cls dx H1 A e => o cls dx H1 ⟨R.ext.trans A.ext, A.dr, A.nw, A.tab⟩ e
      | ok k δ1 =>
        rw [q] at o
        intro H1 A v rk
        have R1 := R.aft A
        obtain ⟨a', ha', _, _, vs, hv, rs⟩ := R1.own i _ hi
        rw [ha] at ha'
        cases ha'
        cases hp : popAtL ρ i k with
        | none => simp only [hp] at o; exact o.elim
        | some r =>
          simp only [hp] at o
          cases k <;> simp only [popAtL, reduceCtorEq] at hp
          rename_i k
          rw [h1] at hp
          simp only [Option.bind_some] at hp
          split at hp
          · rename_i hk
            obtain ⟨d, h3, rfl⟩ := Option.map_eq_some_iff.mp hp
            obtain ⟨y, hy, ry⟩ := rs.get h3
            have hlt := (List.getElem?_eq_some_iff.mp hy).1
            cases rk
            have ex : Ext (Oall F ρ σ) H1 (upd H1 a (.lst (vs.eraseIdx k.toNat))) := fun b o e n _ => by
              have : b ≠ a := fun z => n (by rw [z]; exact .inr ⟨i, _, hi, ha⟩)
              rw [upd_ne this]; exact e
            have hq : seqIndex? k vs.length = some k.toNat := by
              unfold seqIndex?
              have n1 : ¬ k < 0 := by omega
              simp only [if_neg n1]
              rw [if_pos]
              simp only [Bool.and_eq_true, decide_eq_true_eq]
              omega
            refine ⟨a, vs, k, k.toNat, y, rfl, rfl, hv, by omega, hk.2, hq, hy, o y _ (R1.rewrite hi ha ⟨_, upd_same, (rs.eraseIdx _).ext ex⟩ (.inl ⟨_, hv⟩) fun _ z => by cases z) ?_⟩
            refine ry.mv ex fun b _ n z => n ?_
            rcases z with z | ⟨k, f, z1, z2⟩
            · exact .inl z
            · by_cases hk : i = k
              · subst hk; exact .inr ⟨i, _, hi, z2⟩
              · rw [List.getElem?_set_ne hk] at z1
                exact .inr ⟨k, f, z1, z2⟩
          · cases hp
theorem s_app (h : PS X st (tDrop (tBM X.K "list" rAppend (tVar i) (tCons (rdM S C E m) tNil)))) : PS X st (rdS S C E (dApp i m)) := h.mono fun T σ H ⟨Γ, F, H0, ρ, δ, hS, R, o⟩ => by
  unfold dApp at o
  cases h1 : ownL ρ i with
  | none => rw [h1] at o; exact o.elim
  | some ds0 =>
    rw [h1] at o
    obtain ⟨a, ha, nf, n0, vs, hv, rs⟩ := R.own i _ (ownL_some h1)
    refine ⟨_, ha, .inl ⟨rfl, vs, SqL.of hv⟩, Γ, F, H0, ρ, δ, hS, R, ?_⟩
    simp only [bind_eq] at o
    cases q : m C ρ δ with
    | fail => rw [q] at o; exact o
    | exc c as δ1 => rw [q] at o; exact o
    | ok r δ1 =>
      rw [q] at o
      obtain ⟨d, ρ1⟩ := r
      intro v H1 R1 rv
      obtain ⟨ρ2, e, k⟩ := o.optS
      obtain ⟨ds, h2, e⟩ := Option.bind_eq_some_iff.mp e
      split at e
      · rename_i hl
        cases e
        have hi := ownL_some h2
        obtain ⟨a', ha', _, _, vs, hv, rs⟩ := R1.own i _ hi
        rw [ha] at ha'
        cases ha'
        have ex : Ext (Oall F ρ1 σ) H1 (upd H1 a (.lst (vs ++ [v]))) := fun b o e n _ => by
          have : b ≠ a := fun z => n (by rw [z]; exact .inr ⟨i, _, hi, ha⟩)
          rw [upd_ne this]; exact e
        rw [LINE_eq] at hl
        exact ⟨a, vs, v, rfl, rfl, hv, by rw [← rs.length]; exact hl, k _ _ (R1.rewrite hi ha ⟨_, upd_same, (rs.append (.cons rv .nil)).ext ex⟩ (.inl ⟨_, hv⟩) fun _ z => by cases z)⟩
      · cases e
theorem s_ext (h : PS X st (tDrop (tBM X.K "list" rExtend (tVar i) (tCons (rdE S C E t) tNil)))) : PS X st (rdS S C E (dExt i t)) := h.mono fun T σ H ⟨Γ, F, H0, ρ, δ, hS, R, o⟩ => by
  unfold dExt at o
  cases h1 : ownL ρ i with
  | none => rw [h1] at o; exact o.elim
  | some ds =>
    rw [h1] at o
    have hi := ownL_some h1
    obtain ⟨a, ha, nf, n0, vs, hv, rs⟩ := R.own i _ hi
    refine ⟨_, ha, .inl ⟨rfl, vs, SqL.of hv⟩, Γ, F, H0, ρ, δ, hS, R, (o.bindG R.ext).imp fun d δ1 H1 A o1 v r => ?_⟩
    obtain ⟨ρ2, e, k⟩ := o1.optS
    have R1 := R.aft A
    cases d <;> simp only [extL, reduceCtorEq] at e
    rename_i es
    rw [h1] at e
    simp only [Option.bind_some] at e
    split at e
    · rename_i hl
      cases e
      obtain ⟨a', ha', _, _, vs, hv, rs⟩ := R1.own i _ hi
      rw [ha] at ha'
      cases ha'
      cases r with
      | @lst _ zs _ na hb rb =>
        have ex : Ext (Oall F ρ σ) H1 (upd H1 a (.lst (vs ++ zs))) := fun b o e n _ => by
          have : b ≠ a := fun z => n (by rw [z]; exact .inr ⟨i, _, hi, ha⟩)
          rw [upd_ne this]; exact e
        rw [LINE_eq, rs.length, rb.length] at hl
        exact ⟨a, _, vs, _, rfl, rfl, hv, hb, hl, k _ _ (R1.rewrite hi ha ⟨_, upd_same, (rs.append rb).ext ex⟩ (.inl ⟨_, hv⟩) fun _ z => by cases z)⟩
    · cases e
theorem _root_.L2.PSet.or {t u : TSet} (h : PSet X t) (k : PSet X u) : PSet X (fun o i v H Q => t o i v H Q ∨ u o i v H Q) := fun pins s σ H o i v ov iv w Q I ro ri rv q => q.elim (h pins s σ H o i v ov iv w Q I ro ri rv) (k pins s σ H o i v ov iv w Q I ro ri rv)
abbrev rSetA (K : PySem.W.Frag) : TSet := fun o i v H Q => rSetL o i v H Q ∨ (rSetD o i v H Q ∨ rSetN K o i v H Q)
theorem set_D (hu : X.A.units + 120 < cLine) : PSet X (rSetA X.K) := PSet.or set_list (PSet.or (set_dict (by omega)) (set_dictN hu))
theorem dKey_kD {d : D} {k : Key} (h : dKey d = some k) : d = kD k := by
  cases d <;> simp only [dKey, reduceCtorEq, Option.some.injEq] at h
  · subst h; rfl
  · subst h; rfl
theorem kD_kV {Γ : Gm} {H : Hp} {O : Addr → Prop} {k : Key} {v : V} (h : RelD Γ H O (kD k) v) : v = kV k := by
  cases k
  · cases h; rfl
  · cases h; rfl
/-- a store into a slot's own container -/
theorem storeOk {Γ : Gm} {F : Addr → Prop} {H0 H : Hp} {ρ ρ2 : Sls} {δ : Dr} {σ : St} {K : PySem.W.Frag} {i : Nat} {c k d : D} {a : Addr} {kv v : V} {Q : Hp → Prop} (hK : Γ.K = K) (R : Rel Γ F H0 ρ δ σ H) (hi : ρ[i]? = some (.own c)) (ha : σ[i]? = some (some (.ref a))) (e : setL ρ i k d = some ρ2)
    (rk : RelD Γ H (Oall F ρ σ) k kv) (pv : RelD Γ H (Oall F ρ σ) d v) (fin : ∀ H', Rel Γ F H0 ρ2 δ σ H' → Q H') : rSetA K (.ref a) kv v H Q := by
  obtain ⟨a', ha', _, _, q⟩ := R.own i _ hi
  rw [ha] at ha'
  cases ha'
  have ex : ∀ u, Ext (Oall F ρ σ) H (upd H a u) := fun u b o e n _ => by
    have : b ≠ a := fun z => n (by rw [z]; exact .inr ⟨i, _, hi, ha⟩)
    rw [upd_ne this]; exact e
  unfold setL at e
  rw [hi] at e
  simp only [Option.map_eq_some_iff] at e
  obtain ⟨c', hc, rfl⟩ := e
  unfold setSem at hc
  split at hc
  · rename_i ds k
    obtain ⟨j, hj, rfl⟩ := Option.map_eq_some_iff.mp hc
    cases rk
    obtain ⟨vs, hv, rs⟩ := q
    refine .inl ⟨a, vs, k, j, rfl, rfl, hv, by rw [← rs.length]; exact hj, fin _ (R.rewrite hi ha ⟨_, upd_same, (rs.set j pv).ext (ex _)⟩ (.inl ⟨_, hv⟩) fun _ z => by cases z)⟩
  · rename_i ks
    split at hc
    · rename_i hk
      cases hc
      obtain ⟨key, hkey⟩ := Option.isSome_iff_exists.mp hk.1
      have := dKey_kD hkey
      subst this
      have := kD_kV rk
      subst this
      obtain ⟨vs, hv, rs⟩ := q
      have hl := hk.2
      rw [rs.length, LINE_eq] at hl
      exact .inr (.inl ⟨a, _, rfl, DPut.k hv hl, fin _ (R.rewrite hi ha ⟨_, upd_same, (rs.put key pv).ext (ex _)⟩ (.inr ⟨_, hv⟩) fun _ z => by cases z)⟩)
    · split at hc
      · rename_i hk
        cases hc
        obtain ⟨rfl, hk⟩ := hk
        obtain ⟨κ, hκ⟩ := Option.isSome_iff_exists.mp hk
        obtain ⟨b, rfl, rd⟩ := nkey_ref hκ rk.p
        obtain ⟨vs, hv, rs⟩ := q
        cases rs
        refine .inr (.inr ⟨Γ, Oall F ρ σ, a, b, _, κ, [], [], hK, rfl, rfl, hκ, rd, .nil, .inr ⟨rfl, hv⟩, by show 0 < sizeLine; rw [sizeLine_eq]; decide, fin _ (R.rewriteG hi ha ⟨_, upd_same, ?_⟩ ⟨_, hv, fun _ z => (by cases z), fun _ _ z => by unfold LamX.CodeO at z; cases z⟩ DNo.ntb)⟩)
        exact RelN.cons hκ (rd.ext (ex _)) (pv.ext (ex _)) .nil
      · cases hc
  · rename_i ks
    obtain ⟨κ, hκ, hc⟩ := Option.bind_eq_some_iff.mp hc
    split at hc
    · rename_i hl
      cases hc
      obtain ⟨b, rfl, rd⟩ := nkey_ref hκ rk.p
      obtain ⟨ws, hv, rs⟩ := q
      rw [rs.length, LINE_eq] at hl
      exact .inr (.inr ⟨Γ, Oall F ρ σ, a, b, _, κ, _, ws, hK, rfl, rfl, hκ, rd, rs, .inl hv, hl, fin _ (R.rewriteG hi ha ⟨_, upd_same, (rs.put hκ rd pv).ext (ex _)⟩ ⟨_, hv, DNo.ntb, fun _ _ => DNo.ncode⟩ DNo.ntb)⟩)
    · cases hc
  · cases hc
theorem s_setItem (hK : X.K = S.K) (h : PS X st (tAsg (rdZ S C E z) (gSub (tVar i) (rdE S C E ti) (rSetA X.K)))) : PS X st (rdS S C E (dSetItem i ti z)) := h.mono fun T σ H ⟨Γ, F, H0, ρ, δ, hS, R, o⟩ =>
  ⟨Γ, F, H0, ρ, δ, hS, R, (o.bindG R.ext).imp fun s δ1 H1 A o1 v pz => by
    cases s with
    | no => exact o1.elim
    | own d => exact o1.elim
    | val d =>
    rcases hi : ρ[i]? with _ | (_ | d' | c)
    · simp only [hi] at o1; exact o1.elim
    · simp only [hi] at o1; exact o1.elim
    · simp only [hi] at o1; exact o1.elim
    · simp only [hi] at o1
      have R1 := R.aft A
      obtain ⟨a, ha, nf, n0, q0⟩ := R1.own i _ hi
      refine ⟨_, ha, Γ, F, H0, ρ, δ1, hS, R1, (o1.bindG R1.ext).imp fun k δ2 H2 A2 o2 kv rk => ?_⟩
      obtain ⟨ρ2, e, fin⟩ := o2.optS
      have R2 := R1.aft A2
      have pv : RelD Γ H2 (Oall F ρ σ) d v := RelD.ext pz (A2.ext.mono R1.dO)
      exact storeOk (by rw [hK, ← hS]) R2 hi ha e rk pv fun H' R' => fin _ _ R'⟩
/-- a[i], b[j] = x, y -/
def dSetItem2 (i : Nat) (i1 : DE) (j : Nat) (i2 : DE) (e1 e2 : DE) : DS := fun C ρ => do
  let d1 ← e1 C ρ
  let d2 ← e2 C ρ
  match ρ[i]? with
  | some (.own _) => do
    let k1 ← i1 C ρ
    match setL ρ i k1 d1 with
    | some ρ1 => match ρ1[j]? with
      | some (.own _) => do
        let k2 ← i2 C ρ1
        optS (setL ρ1 j k2 d2)
      | _ => fun _ => .fail
    | none => fun _ => .fail
  | _ => fun _ => .fail
theorem setL_app {ρ ρ1 ss : Sls} {i : Nat} {k d : D} (h : setL ρ i k d = some ρ1) : setL (ρ ++ ss) i k d = some (ρ1 ++ ss) ∧ i < ρ.length ∧ ρ1.length = ρ.length := by
  unfold setL at h ⊢
  split at h
  · rename_i c hc
    have hi := (List.getElem?_eq_some_iff.mp hc).1
    rw [List.getElem?_append_left hi, hc]
    obtain ⟨c', h1, rfl⟩ := Option.map_eq_some_iff.mp h
    simp only [h1, Option.map_some]
    exact ⟨by rw [List.set_append_left _ _ hi], hi, List.length_set⟩
  · cases h
def tNW (K : PySem.W.Frag) (t : TE) : TE := fun σ H Q => t σ H fun v H' => NW K H' → Q v H'
theorem oall_val {F : Addr → Prop} {ρ : Sls} {σ : St} {d : D} {w : V} (hl : ρ.length = σ.length) (a : Addr) : Oall F (ρ ++ [.val d]) (σ ++ [some w]) a ↔ Oall F ρ σ a := by
  rw [oall_app hl]
  constructor
  · rintro ((h | ⟨k, e, h1, h2⟩) | h)
    · exact .inl h
    · cases k <;> simp at h1
    · exact .inr h
  · exact fun h => h.imp .inl id
theorem Rel.dropVal {Γ : Gm} {F : Addr → Prop} {H0 H : Hp} {ρ : Sls} {δ : Dr} {σ : St} {d : D} {w : V} (hl : ρ.length = σ.length) (R : Rel Γ F H0 (ρ ++ [.val d]) δ (σ ++ [some w]) H) : Rel Γ F H0 ρ δ σ H ∧ RelD Γ H (Oall F ρ σ) d w := by
  refine ⟨R.remap hl id (fun k s h n => ⟨app_l h, ?_⟩) (fun k l d e h1 h2 h => h), ?_⟩
  · show σ[k]? = (σ ++ [some w])[k]?
    rw [List.getElem?_append_left (by rw [← hl]; exact (List.getElem?_eq_some_iff.mp h).1)]
  · obtain ⟨v, h1, r⟩ := R.val ρ.length d (by rw [List.getElem?_append_right (Nat.le_refl _)]; simp)
    rw [hl, List.getElem?_append_right (Nat.le_refl _)] at h1
    simp only [Nat.sub_self, List.getElem?_cons_zero, Option.some.injEq] at h1
    subst h1
    exact r.less fun a z => (oall_val hl a).mpr z
theorem s_setItem2 {t1 t2 e1 e2 : DE} {j : Nat} (hK : X.K = S.K) (h : PS X st (tAsg (tNW X.K (tTup (tCons (rdE S C E e1) (tCons (rdE S C E e2) tNil)))) (gTup X.K 2 (gCons (gSub (tVar i) (rdE S C E t1) (rSetA X.K)) (gCons (gSub (tVar j) (rdE S C E t2) (rSetA X.K)) gNil))))) :
    PS X st (rdS S C E (dSetItem2 i t1 j t2 e1 e2)) := h.mono fun T σ H ⟨Γ, F, H0, ρ, δ, hS, R, o⟩ =>
  ⟨Γ, F, H0, ρ, δ, hS, R, (o.bindG R.ext).imp fun d1 δ1 H1 A o1 v p1 => by
    have R1 := R.aft A
    exact ⟨Γ, F, H0, ρ, δ1, hS, R1, (o1.bindG R1.ext).imp fun d2 δ2 H2 A2 o2 w p2 => by
      have R2 := R1.aft A2
      have q1 : RelD Γ H2 (Oall F ρ σ) d1 v := p1.ext (A2.ext.mono R1.dO)
      refine ⟨show 2 ≤ sizeLine by rw [sizeLine_eq]; decide, fun P hP nw => ?_⟩
      have hK' : Γ.K = X.K := by rw [hK, ← hS]
      have A3 : Aft Γ δ2 H2 (upd H2 P (.tup [v, w])) := aft_same (same_new hP) R2.dr R2.tab (by rw [hK']; exact nw)
      have R3 := R2.aft A3
      have x1 := q1.ext (A3.ext.mono R2.dO)
      have x2 := p2.ext (A3.ext.mono R2.dO)
      refine ⟨P, [v, w], rfl, SqT.of upd_same, rfl, _, _, rfl, ?_⟩
      have hiO : ∃ c, ρ[i]? = some (.own c) := by
        rcases hi : ρ[i]? with _ | (_ | d' | c)
        · simp only [hi] at o2; exact o2.elim
        · simp only [hi] at o2; exact o2.elim
        · simp only [hi] at o2; exact o2.elim
        · exact ⟨c, rfl⟩
      obtain ⟨c, hi⟩ := hiO
      obtain ⟨a, ha, nf, n0, q0⟩ := R3.own i _ hi
      refine ⟨_, ha, ?_⟩
      simp only [hi] at o2
      refine ⟨Γ, F, H0, ρ, δ2, hS, R3, (o2.bindG R3.ext).imp fun k1 δ3 H4 A4 o3 kv rk => ?_⟩
      have R4 := R3.aft A4
      have y1 := x1.ext (A4.ext.mono R3.dO)
      have y2 := x2.ext (A4.ext.mono R3.dO)
      cases hs1 : setL ρ i k1 d1 with
      | none => simp only [hs1] at o3; exact o3.elim
      | some ρ1 =>
        simp only [hs1] at o3
        obtain ⟨g1, g2, g3⟩ := setL_app (ss := [.val d2]) hs1
        have ol := fun a => oall_val (F := F) (d := d2) (w := w) R4.len a
        refine storeOk hK' (R4.pushVal y2) (app_l hi) (app_l ha) g1 (rk.less fun a z => (ol a).mp z) (y1.less fun a z => (ol a).mp z) fun H5 R5 => ?_
        obtain ⟨R5, z2⟩ := R5.dropVal (g3.trans R4.len)
        have hjO : ∃ c, ρ1[j]? = some (.own c) := by
          rcases hi : ρ1[j]? with _ | (_ | d' | c)
          · simp only [hi] at o3; exact o3.elim
          · simp only [hi] at o3; exact o3.elim
          · simp only [hi] at o3; exact o3.elim
          · exact ⟨c, rfl⟩
        obtain ⟨c2, hj⟩ := hjO
        simp only [hj] at o3
        obtain ⟨a2, ha2, _, _, _⟩ := R5.own j _ hj
        refine ⟨_, _, rfl, _, ha2, Γ, F, H0, ρ1, δ3, hS, R5, (o3.bindG R5.ext).imp fun k2 δ4 H6 A6 o4 kw rk2 => ?_⟩
        obtain ⟨ρ2, hs2, fin⟩ := o4.optS
        have R6 := R5.aft A6
        exact storeOk hK' R6 hj ha2 hs2 rk2 (z2.ext (A6.ext.mono R5.dO)) fun H7 R7 => ⟨rfl, fin _ _ R7⟩⟩⟩
end
end SG

set_option Elab.async false
set_option linter.all false
set_option maxRecDepth 100000
set_option maxHeartbeats 4000000
namespace SG
open PySem PySem.Spec L2
open PyProof.Rows hiding St
/-! ### defs -/
theorem takes_F {X : Cx} : Takes X (fun cls d _ H => exF cls d H) := fun _ _ ⟨_, _, _, _, _, _, _, _, _, _, _, _, _, _, _, _, w⟩ => w.elim
def runF (n np : Nat) (s : DS) (C : Ctx) (ds : List D) : M D := fun δ => if ds.length = np ∧ np ≤ n then
    match s C (ds.map Sl.val ++ List.replicate (n - ds.length) .no) δ with
    | .ok (.rt d) δ' => .ok d δ'
    | .ok (.nx _) δ' => .ok .non δ'
    | .exc c as δ' => .exc c as δ'
    | _ => .fail
  else .fail
section
variable {P : Program} {w : World} {K : PySem.W.Frag} {mg : Str → Option Value} {base : Heap} {N ps : List Str} {qual : Str} {scope : Scope} {f : Addr} {cd : Value} {A : Around} {outer : List Env} {s : Shared} {H : Hp} {E : XK}
theorem takes_cx : Takes (cxOf (L2.CX P w) P w K mg base N qual scope f cd A outer s H E) (fun cls d _ H => E cls d H) := takes_of rfl rfl rfl rfl
theorem owns_cx : PassesOwn (model P w) (cxOf (L2.CX P w) P w K mg base N qual scope f cd A outer s H E).A (cxOf (L2.CX P w) P w K mg base N qual scope f cd A outer s H E).env (cxOf (L2.CX P w) P w K mg base N qual scope f cd A outer s H E).xe :=
  passes_of (X := cxOf (L2.CX P w) P w K mg base N qual scope f cd A outer s H E) (K := fun e s'' => L2.CX P w outer H s E e s'') (E₁ := fun e s'' => L2.CX P w outer H s E e s'') rfl
end
theorem rel_start {Γ : Gm} {F : Addr → Prop} {H : Hp} {δ : Dr} {ds : List D} {vs : List V} {N : List Str} (hF : ∀ a, F a → ∃ o, H a = some o ∧ ∀ ps, o ≠ .tbl ps) (hD : ∀ a, Γ.DR a → F a) (d : DrawRel Γ δ H) (nw : NW Γ.K H) (t : LamX.Tabs Γ.tabs H) (r : RelDs Γ H F ds vs) :
    Rel Γ F H (ds.map Sl.val ++ List.replicate (N.length - ds.length) .no) δ (L2.start N vs) H := by
  have no : ∀ (i : Nat) (d : D), (ds.map Sl.val ++ List.replicate (N.length - ds.length) Sl.no)[i]? ≠ some (.own d) := by
    intro i d h
    rcases at_app h with h | ⟨j, rfl, h⟩
    · rw [List.getElem?_map] at h
      cases hq : ds[i]? <;> rw [hq] at h <;> simp at h
    · rename_i h'
      obtain ⟨_, h2⟩ := List.getElem?_eq_some_iff.mp h'
      simp at h2
  have w : ∀ a, Oall F (ds.map Sl.val ++ List.replicate (N.length - ds.length) Sl.no) (L2.start N vs) a → F a := fun a z => z.elim id fun ⟨i, d, h, _⟩ => absurd h (no i d)
  exact {
    len := by simp only [L2.start, List.length_append, List.length_map, List.length_replicate, r.length]
    val := fun i d h => by
      rcases at_app h with h' | ⟨j, rfl, h'⟩
      · rw [List.getElem?_map] at h'
        obtain ⟨e, he, h2⟩ := Option.map_eq_some_iff.mp h'
        cases h2
        obtain ⟨v, hv, rv⟩ := r.get he
        exact ⟨v, app_l (by rw [List.getElem?_map, hv]; rfl), rv.less w⟩
      · obtain ⟨_, h2⟩ := List.getElem?_eq_some_iff.mp h'
        simp at h2
    own := fun i d h => absurd h (no i d)
    inj := fun i j d e a h => absurd h (no i d)
    dr := d
    dF := hD
    ftr := hF
    ext := Ext.refl _ _
    nw := nw
    tab := t }
section
variable {P : Program} {w : World} {K : PySem.W.Frag} {mg : Str → Option Value} {base : Heap} {x qual : Str} {params : Arguments} {body : List Stmt} {scope : Scope} {f : Addr} {fd : FuncData} {N ps : List Str} {S : Sta} {C : Ctx} {c : DS} {k : Nat}
theorem fn_step (F : FunD K x qual params body scope [] [] f fd) (Sc : FnScope N ps scope)
    (hb : ∀ (cdv : Value) (A : Around) (outer : List Env) (s : Shared) (H : Hp) (E : XK), Room k (A.deeper (envOfC qual scope s.heap.objs.size f cdv)) → PSs (cxOf (L2.CX P w) P w K mg base N qual scope f cdv A outer s H E) body (rdS S C E c)) :
    FnOk P w K mg base (L2.CX P w) (k + 1) f fd ps (spEv S (runF N.length ps.length c C)) := by
  refine F.ok Sc (fun vs H Q E h => ?_) fun cdv A outer s H vs Q E hr h => ⟨_, hb cdv A outer s H E hr, ?_⟩
  · obtain ⟨Γ, F, ds, δ, _, _, _, _, _, _, r, o⟩ := h
    unfold runF at o
    split at o
    · rename_i hl; rw [← r.length]; exact hl.1
    · exact o.elim
  · obtain ⟨Γ, F, ds, δ, hS, hF, hD, hd, nw, t, r, o⟩ := h
    refine ⟨Γ, F, H, _, δ, hS, rel_start hF hD hd nw t r, ?_⟩
    unfold runF at o
    split at o
    · cases hq : c C (ds.map Sl.val ++ List.replicate (N.length - ds.length) .no) δ with
      | fail => rw [hq] at o; exact o
      | exc c as δ' => rw [hq] at o; exact o
      | ok fl δ' =>
        rw [hq] at o
        cases fl with
        | nx ρ => exact fun σ' H' R' => o H' ⟨R'.ext, R'.dr, R'.nw, R'.tab⟩ .non .non
        | rt d => exact fun v H' A r => o H' A v r
        | bk ρ => exact o.elim
        | ct ρ => exact o.elim
    · exact o.elim
end
end SG

set_option Elab.async false
set_option linter.all false
set_option maxRecDepth 100000
set_option maxHeartbeats 4000000
namespace SG
open PySem PySem.Spec L2
open PyProof.Rows hiding St
/-! ### the draws' dict -/
abbrev drK (Γ : Gm) (r t : Int) : List (Key × V) := [(.inr "large", .ref Γ.dl), (.inr "rest", .int r), (.inr "cells", .ref Γ.dc), (.inr "turn", .int t)]
theorem dr_large {Γ : Gm} {r t : Int} : valV (drK Γ r t) (.inr "large") = some (.ref Γ.dl) := rfl
theorem dr_rest {Γ : Gm} {r t : Int} : valV (drK Γ r t) (.inr "rest") = some (.int r) := rfl
theorem dr_cells {Γ : Gm} {r t : Int} : valV (drK Γ r t) (.inr "cells") = some (.ref Γ.dc) := rfl
theorem dr_turn {Γ : Gm} {r t : Int} : valV (drK Γ r t) (.inr "turn") = some (.int t) := rfl
theorem put_rest {Γ : Gm} {r t u : Int} : putK (drK Γ r t) (.inr "rest") (.int u) = drK Γ u t := rfl
theorem put_turn {Γ : Gm} {r t u : Int} : putK (drK Γ r t) (.inr "turn") (.int u) = drK Γ r u := rfl
def isDraw (ρ : Sls) (i : Nat) : Bool := match ρ[i]? with
  | some (.val .draw) => true
  | _ => false
theorem isDraw_at {ρ : Sls} {i : Nat} (h : isDraw ρ i = true) : ρ[i]? = some (.val .draw) := by
  unfold isDraw at h
  split at h
  · rename_i h'; exact h'
  · cases h
def dRest (i : Nat) : DE := fun _ ρ δ => match isDraw ρ i with
  | true => .ok (.int δ.rest) δ
  | false => .fail
def dTurn (i : Nat) : DE := fun _ ρ δ => match isDraw ρ i with
  | true => .ok (.int δ.turn) δ
  | false => .fail
def dLargeNe (i : Nat) : DT := fun _ ρ δ => match isDraw ρ i && pl DP (.lst (δ.large.map D.int)) with
  | true => .ok (!deq (.lst (δ.large.map D.int)) (.lst [])) δ
  | false => .fail
def dPopLarge (i : Nat) : DE := fun _ ρ δ => match isDraw ρ i, δ.large with
  | true, x :: r => .ok (.int x) { δ with large := r }
  | _, _ => .fail
def setRest (d : D) (ρ : Sls) : M Fl := fun δ => match d with
  | .int r => .ok (.nx ρ) { δ with rest := r }
  | _ => .fail
def setTurn (d : D) (ρ : Sls) : M Fl := fun δ => match d with
  | .int r => .ok (.nx ρ) { δ with turn := r }
  | _ => .fail
def dSetRest (i : Nat) (e : DE) : DS := fun C ρ => match isDraw ρ i with
  | true => do
    let d ← e C ρ
    setRest d ρ
  | false => fun _ => .fail
def dSetTurn (i : Nat) (e : DE) : DS := fun C ρ => match isDraw ρ i with
  | true => do
    let d ← e C ρ
    setTurn d ρ
  | false => fun _ => .fail
def forC (cs : List Int) (j : Nat) (b : DS) (C : Ctx) : List Int → Sls → M Fl
  | [], ρ => fun δ => if δ.cells = cs then .ok (.nx ρ) δ else .fail
  | c :: r, ρ => fun δ => if δ.cells = cs ∧ j < ρ.length then (do
      let f ← b C (ρ.set j (.val (.int c)))
      afterB f (forC cs j b C r) : M Fl) δ else .fail
def dForCells (i j : Nat) (b : DS) : DS := fun C ρ δ => match isDraw ρ i with
  | true => forC δ.cells j b C δ.cells ρ δ
  | false => .fail
section
variable {Γ : Gm} {F : Addr → Prop} {H0 H : Hp} {ρ : Sls} {δ : Dr} {σ : St} {i : Nat}
theorem Rel.drawAt (R : Rel Γ F H0 ρ δ σ H) (h : isDraw ρ i = true) : σ[i]? = some (some (.ref Γ.dw)) := by
  obtain ⟨v, hv, r⟩ := R.val i _ (isDraw_at h)
  cases r
  exact hv
theorem Aft.dw (R : Rel Γ F H0 ρ δ σ H) (r t : Int) : Aft Γ { δ with rest := r, turn := t } H (upd H Γ.dw (.dK (drK Γ r t))) := by
  obtain ⟨d1, d2, d3, n1, n2, n3⟩ := R.dr
  refine ⟨fun a o e n _ => ?_, ⟨upd_same, ?_, ?_, n1, n2, n3⟩, fun a o e => ?_, tabs_upd R.tab d1 (fun _ z => by cases z) fun _ z => by cases z⟩
  · rw [upd_ne fun z => n (.inl z)]; exact e
  · rw [upd_ne (Ne.symm n1)]; exact d2
  · rw [upd_ne (Ne.symm n2)]; exact d3
  · by_cases z : a = Γ.dw
    · rw [z]; exact R.nw _ _ d1
    · rw [upd_ne z] at e; exact R.nw a o e
theorem Aft.dl (R : Rel Γ F H0 ρ δ σ H) (xs : List Int) : Aft Γ { δ with large := xs } H (upd H Γ.dl (.lst (xs.map V.int))) := by
  obtain ⟨d1, d2, d3, n1, n2, n3⟩ := R.dr
  refine ⟨fun a o e n _ => ?_, ⟨?_, upd_same, ?_, n1, n2, n3⟩, fun a o e => ?_, tabs_upd R.tab d2 (fun _ z => by cases z) fun _ z => by cases z⟩
  · rw [upd_ne fun z => n (.inr (.inl z))]; exact e
  · rw [upd_ne n1]; exact d1
  · rw [upd_ne (Ne.symm n3)]; exact d3
  · by_cases z : a = Γ.dl
    · rw [z]; exact R.nw _ _ d2
    · rw [upd_ne z] at e; exact R.nw a o e
end
section
variable {S : Sta} {C : Ctx} {E : XK} {X : Cx} {o e v : Expr} {st : Stmt} {body : List Stmt} {pos pos' p j1 j2 : Pos} {i j n : Nat} {t : DE} {b : DS}
theorem x_rest (hu : X.A.units + 120 < cLine) (ho : PE X o (tVar i)) (hs : NoSl (.Constant (.str "rest") n p)) : PE X (.Subscript o (.Constant (.str "rest") n p) pos) (rdE S C E (dRest i)) :=
  (pe_dget (by omega) ho pe_str hs).mono fun σ H Q ⟨Γ, F, H0, ρ, δ, hS, R, o⟩ => by
    unfold dRest at o
    cases h : isDraw ρ i with
    | false => rw [h] at o; exact o.elim
    | true =>
      rw [h] at o
      exact ⟨_, R.drawAt h, _, _, rfl, .inl ⟨_, .inr "rest", .inl R.dr.1, rfl, dr_rest.symm⟩, o H R.refl _ (.int _)⟩
theorem x_turn (hu : X.A.units + 120 < cLine) (ho : PE X o (tVar i)) (hs : NoSl (.Constant (.str "turn") n p)) : PE X (.Subscript o (.Constant (.str "turn") n p) pos) (rdE S C E (dTurn i)) :=
  (pe_dget (by omega) ho pe_str hs).mono fun σ H Q ⟨Γ, F, H0, ρ, δ, hS, R, o⟩ => by
    unfold dTurn at o
    cases h : isDraw ρ i with
    | false => rw [h] at o; exact o.elim
    | true =>
      rw [h] at o
      exact ⟨_, R.drawAt h, _, _, rfl, .inl ⟨_, .inr "turn", .inl R.dr.1, rfl, dr_turn.symm⟩, o H R.refl _ (.int _)⟩
/-- the large ones as a value apart -/
theorem large_rel {Γ : Gm} {δ : Dr} {H : Hp} (d : DrawRel Γ δ H) : ∃ Γ' : Gm, Γ'.toSta = Γ.toSta ∧ OK' Γ' H (fun a => a = Γ.dw) ∧ RelD Γ' H (fun a => a = Γ.dw) (.lst (δ.large.map D.int)) (.ref Γ.dl) := by
  obtain ⟨d1, d2, d3, n1, n2, n3⟩ := d
  refine ⟨{ Γ with dl := Γ.dw, dc := Γ.dw }, rfl, ⟨fun a z => ⟨_, z ▸ d1⟩, fun a z => ?_⟩, .lst (Ne.symm n1) d2 .ints⟩
  rcases z with z | z | z <;> exact z
theorem x_largeNe (hK : X.K = S.K) (hu : X.A.units + 120 < cLine) (ho : PE X o (tVar i)) (hs : NoSl (.Constant (.str "large") n p)) (hl : PE X v (tLst tNil)) (hm : behindInMarks .NotEq v = false) :
    PT X (.Compare (.Subscript o (.Constant (.str "large") n p) pos) [.NotEq] [v] pos') (rdT S C E (dLargeNe i)) :=
  (pt_cmpR (v_cmp hu .NotEq) (pe_dget (by omega) ho pe_str hs) hl hm).by' fun σ H Q ⟨Γ, F, H0, ρ, δ, hS, R, o⟩ => by
    subst hS
    unfold dLargeNe at o
    cases h : (isDraw ρ i && pl DP (.lst (δ.large.map D.int))) with
    | false => rw [h] at o; exact o.elim
    | true =>
      rw [h] at o
      rw [Bool.and_eq_true] at h
      refine ⟨_, R.drawAt h.1, _, _, rfl, .inl ⟨_, .inr "large", .inl R.dr.1, rfl, dr_large.symm⟩, ?_⟩
      refine ⟨by show 0 ≤ sizeLine; exact Nat.zero_le _, fun P hP => ?_⟩
      have same := same_new (o := .lst []) hP
      obtain ⟨Γ', e', k', r'⟩ := large_rel (R.dr.same same)
      refine ⟨Γ', _, _, _, !deq (.lst (δ.large.map D.int)) (.lst []), by rw [hK, ← e'], k', .inl r', .inl (.lst (fun z => ?_) upd_same .nil), ?_, _, rfl, fun nw => ?_⟩
      · have := R.dr.1
        rw [← z, hP] at this; cases this
      · unfold cmpSem
        simp only
        rw [if_pos]
        rw [Bool.and_eq_true]
        exact ⟨h.2, by decide⟩
      · exact o _ (aft_same same R.dr R.tab (by rw [hK] at nw; exact nw))
theorem x_popLarge (hu : X.A.units + 120 < cLine) (ho : PE X o (tVar i)) (hs : NoSl (.Constant (.str "large") n p)) (hb : attributeBase (.Subscript o (.Constant (.str "large") n p) pos) "pop" X.env (eval (.Subscript o (.Constant (.str "large") n p) pos) X.env) = eval (.Subscript o (.Constant (.str "large") n p) pos) X.env)
    (he : PE X e (tC (.int 0)))
    (hf : ((backTo j1 (starEach [e] X.env)).all (fun x => !x.1) && (backToKw j1 (keywordEach [] X.env)).all (fun x => x.1.isSome) && decide ([e].length + ([] : List Keyword).length + (if ([] : List Keyword).isEmpty then 0 else 1) < 30)) = true)
    (hl : (j2.endLine == j1.line) = true) (hs2 : starEach [e] X.env = (false, eval e X.env) :: starEach [] X.env) (hp : (backTo j1 (starEach [] X.env)).any (·.1) = false) :
    PE X (.Call (.Attribute (.Subscript o (.Constant (.str "large") n p) pos) "pop" j2) [e] [] j1) (rdE S C E (dPopLarge i)) :=
  (pe_bm F.plainAttrs_list F.slot_list_pop F.type_list_pop mt_popAt (pe_dget (by omega) ho pe_str hs) (pa_cons he pa_nil hs2) hb hf hl hs2 hp).mono fun σ H Q ⟨Γ, F, H0, ρ, δ, hS, R, o⟩ => by
    unfold dPopLarge at o
    cases h : isDraw ρ i with
    | false => rw [h] at o; exact o.elim
    | true =>
      cases hx : δ.large with
      | nil => rw [h, hx] at o; exact o.elim
      | cons x r =>
        rw [h, hx] at o
        have d2 := R.dr.2.1
        rw [hx] at d2
        refine ⟨_, R.drawAt h, _, _, rfl, .inl ⟨_, .inr "large", .inl R.dr.1, rfl, dr_large.symm⟩, .inl ⟨rfl, _, SqL.of d2⟩, ?_⟩
        refine ⟨_, _, 0, 0, .int x, rfl, rfl, d2, by decide, by decide, ?_, rfl, o _ (Aft.dl R r) _ (.int _)⟩
        unfold seqIndex?
        simp
theorem x_setRest (hu : X.A.units + 120 < cLine) (ho : PE X o (tVar i)) (he : PE X e (rdE S C E t)) (hs : swapsWith e (some (.Subscript o (.Constant (.str "rest") n p) pos')) pos.line X.env = pure false) :
    PS X (.Assign [.Subscript o (.Constant (.str "rest") n p) pos'] e pos) (rdS S C E (dSetRest i t)) :=
  (ps_dput (by omega) ho pe_str he hs).mono fun T σ H ⟨Γ, F, H0, ρ, δ, hS, R, o⟩ => by
    unfold dSetRest at o
    cases h : isDraw ρ i with
    | false => rw [h] at o; exact o.elim
    | true =>
      rw [h] at o
      refine ⟨Γ, F, H0, ρ, δ, hS, R, (o.bindG R.ext).imp fun d δ1 H1 A o1 v r => ?_⟩
      have R1 := R.aft A
      cases d <;> first | exact o1.elim | skip
      cases r
      refine ⟨_, R1.drawAt h, _, _, rfl, .inl ⟨_, .inr "rest", R1.dr.1, rfl, by show 4 < sizeLine; decide, rfl⟩, ?_⟩
      rw [put_rest]
      exact o1 _ _ (R1.aft (Aft.dw R1 _ δ1.turn))
theorem x_setTurn (hu : X.A.units + 120 < cLine) (ho : PE X o (tVar i)) (he : PE X e (rdE S C E t)) (hs : swapsWith e (some (.Subscript o (.Constant (.str "turn") n p) pos')) pos.line X.env = pure false) :
    PS X (.Assign [.Subscript o (.Constant (.str "turn") n p) pos'] e pos) (rdS S C E (dSetTurn i t)) :=
  (ps_dput (by omega) ho pe_str he hs).mono fun T σ H ⟨Γ, F, H0, ρ, δ, hS, R, o⟩ => by
    unfold dSetTurn at o
    cases h : isDraw ρ i with
    | false => rw [h] at o; exact o.elim
    | true =>
      rw [h] at o
      refine ⟨Γ, F, H0, ρ, δ, hS, R, (o.bindG R.ext).imp fun d δ1 H1 A o1 v r => ?_⟩
      have R1 := R.aft A
      cases d <;> first | exact o1.elim | skip
      cases r
      refine ⟨_, R1.drawAt h, _, _, rfl, .inl ⟨_, .inr "turn", R1.dr.1, rfl, by show 4 < sizeLine; decide, rfl⟩, ?_⟩
      rw [put_turn]
      exact o1 _ _ (R1.aft (Aft.dw R1 δ1.rest _))
theorem x_forCells {tg : Expr} (hK : X.K = S.K) (hu : X.A.units + 120 < cLine) (hp : PassesOwn (model X.prog X.w) X.A X.env X.xe) (hc : X.calm = true) (ho : PE X o (tVar i)) (hs : NoSl (.Constant (.str "cells") n p)) (hg : PG X tg (gName j)) (hb : PSs X body (rdS S C E b))
    (hf : ∀ x, foldedSetIterable (.Subscript o (.Constant (.str "cells") n p) pos') X.env x = pure x) : PS X (.For tg (.Subscript o (.Constant (.str "cells") n p) pos') body [] pos) (rdS S C E (dForCells i j b)) :=
  (ps_for hp hc (pi_list (pe_dget (by omega) ho pe_str hs)) hg hb hf).mono fun T σ H ⟨Γ, F, H0, ρ, δ, hS, R, o⟩ => by
    subst hS
    unfold dForCells at o
    cases h : isDraw ρ i with
    | false => rw [h] at o; exact o.elim
    | true =>
      rw [h] at o
      refine ⟨_, R.drawAt h, _, _, rfl, .inl ⟨_, .inr "cells", .inl R.dr.1, rfl, dr_cells.symm⟩, Γ.dc, rfl, ⟨_, SqL.of R.dr.2.2.1⟩, ?_⟩
      have len : (δ.cells.map V.int).length = δ.cells.length := List.length_map ..
      refine for_it (walk_list (xs := δ.cells.map V.int)) (fun k σ' H' => ∃ ρ' δ', Rel Γ F H0 ρ' δ' σ' H' ∧ OutS Γ F H0 E T (forC δ.cells j b C (δ.cells.drop k) ρ' δ')) ⟨ρ, δ, R, o⟩ ?_ ?_ ?_
      · rintro k σ' H' hk ⟨ρ', δ', R', o'⟩
        have hc : δ'.cells = δ.cells := by
          cases hd : δ.cells.drop k with
          | nil =>
            rw [hd] at o'
            unfold forC at o'
            split at o'
            · rename_i hc; exact hc
            · exact o'.elim
          | cons c r =>
            rw [hd] at o'
            unfold forC at o'
            split at o'
            · rename_i hc; exact hc.1
            · exact o'.elim
        have := R'.dr.2.2.1
        rw [hc] at this
        exact SqL.of this
      · rintro k x σ' H1 H2 hk ⟨ρ', δ', R', o'⟩ ⟨rfl, hx⟩
        rw [len] at hk
        rw [List.drop_eq_getElem_cons hk] at o'
        rw [List.getElem?_map, List.getElem?_eq_getElem hk] at hx
        cases hx
        unfold forC at o'
        split at o'
        · rename_i hc
          exact ⟨Γ, F, H0, _, δ', rfl, R'.setVal (.int _) hc.2, afterB_out o' fun ρ δ o σ H R => ⟨ρ, δ, R, o⟩⟩
        · exact o'.elim
      · rintro σ' H' ⟨ρ', δ', R', o'⟩
        rw [len, List.drop_length] at o'
        unfold forC at o'
        split at o'
        · exact o' σ' H' R'
        · exact o'.elim
end
end SG

set_option Elab.async false
set_option linter.all false
set_option maxRecDepth 100000
set_option maxHeartbeats 4000000
namespace SG
open PySem PySem.Spec L2
open PyProof.Rows hiding St
/-! ### list(range ..), tuple(range ..) -/
def sRg (k : List D → D) : D → D → Option D
  | .int i, .int j => if -(2 ^ 62) ≤ i ∧ i < 2 ^ 62 ∧ -(2 ^ 62) ≤ j ∧ j < 2 ^ 62 ∧ (j - i).toNat ≤ 2 ^ 24 then some (k (rngD i (j - i).toNat)) else none
  | _, _ => none
def dRg1 (k : List D → D) (a : DE) : DE := fun C ρ => do
  let x ← a C ρ
  M.opt (sRg k (.int 0) x)
def dRg2 (k : List D → D) (a b : DE) : DE := fun C ρ => do
  let x ← a C ρ
  let y ← b C ρ
  M.opt (sRg k x y)
section
variable {S : Sta} {C : Ctx} {E : XK} {X : Cx} {e a b call : Expr} {ta tb t : DE} {pos p : Pos} {te : St → Hp → (Int → Int → Hp → Prop) → Prop}
theorem rgs_rel {Γ : Gm} {H : Hp} {O : Addr → Prop} (i j : Int) : RelDs Γ H O (rngD i (j - i).toNat) (rgV i j) := by
  have e1 : rngD i (j - i).toNat = ((List.range (j - i).toNat).map fun k : Nat => i + (k : Int)).map D.int := by simp [rngD, Function.comp_def]
  have e2 : rgV i j = ((List.range (j - i).toNat).map fun k : Nat => i + (k : Int)).map V.int := by simp [rgV, Function.comp_def]
  rw [e1, e2]
  exact .ints
def rdRg1 (S : Sta) (C : Ctx) (E : XK) (t : DE) : St → Hp → (Int → Int → Hp → Prop) → Prop := tRg1 (rdE S C E t)
theorem sRg_some {k : List D → D} {x y r : D} (h : sRg k x y = some r) : ∃ i j, x = .int i ∧ y = .int j ∧ RgOk i j ∧ r = k (rngD i (j - i).toNat) := by
  cases x <;> cases y <;> simp only [sRg, reduceCtorEq] at h
  split at h
  · rename_i hc
    cases h
    exact ⟨_, _, rfl, rfl, hc, rfl⟩
  · cases h
theorem f_listRg1 (hK : X.K = S.K) (hc : X.calm = true) (hg : Gl X "list") (hm : X.mg "list" = none) (hg2 : Gl X "range") (hm2 : X.mg "range" = none) (ha : PE X a (rdE S C E ta)) {p2 pos2 : Pos}
    (n1 : starEach [a] X.env = (false, eval a X.env) :: starEach [] X.env) (n2 : starEach [.Call (.Name "range" p2) [a] [] pos2] X.env = (false, eval (.Call (.Name "range" p2) [a] [] pos2) X.env) :: starEach [] X.env) :
    PE X (.Call (.Name "list" p) [.Call (.Name "range" p2) [a] [] pos2] [] pos) (rdF S C E (dRg1 .lst ta)) :=
  (pe_listRg hc hg hm (prg_1 hg2 hm2 ha n1) n2).by' fun σ H Q ⟨Γ, F, H0, ρ, δ, hS, R, o⟩ => ⟨Γ, F, H0, ρ, δ, hS, R, o.bind.imp fun d δ1 H1 A o1 v r => by
    obtain ⟨res, e, q⟩ := o1.opt
    obtain ⟨i, j, e1, rfl, ok, rfl⟩ := sRg_some e
    cases e1
    cases r
    have R1 := R.aft A
    exact ⟨j, rfl, ok, fun z hz nw => q _ (aft_nw hK hS (same_new hz) R1.dr R1.tab nw) z (fr_back A.ext A.dr (fr_none hz)) (OwnN.own (d := .lst _) ⟨_, upd_same, rgs_rel 0 j⟩ hz (same_new hz) (by rw [hK, ← hS] at nw; exact nw))⟩⟩
theorem f_listRg2 (hK : X.K = S.K) (hc : X.calm = true) (hg : Gl X "list") (hm : X.mg "list" = none) (hg2 : Gl X "range") (hm2 : X.mg "range" = none) (ha : PE X a (rdE S C E ta)) (hb : PE X b (rdE S C E tb)) {p2 pos2 : Pos}
    (n0 : starEach [a, b] X.env = (false, eval a X.env) :: starEach [b] X.env) (n1 : starEach [b] X.env = (false, eval b X.env) :: starEach [] X.env) (hp : (backTo pos2 (starEach [b] X.env)).any (·.1) = false) (n2 : starEach [.Call (.Name "range" p2) [a, b] [] pos2] X.env = (false, eval (.Call (.Name "range" p2) [a, b] [] pos2) X.env) :: starEach [] X.env) :
    PE X (.Call (.Name "list" p) [.Call (.Name "range" p2) [a, b] [] pos2] [] pos) (rdF S C E (dRg2 .lst ta tb)) :=
  (pe_listRg hc hg hm (prg_2 hg2 hm2 ha hb n0 n1 hp) n2).by' fun σ H Q ⟨Γ, F, H0, ρ, δ, hS, R, o⟩ => ⟨Γ, F, H0, ρ, δ, hS, R, o.bind.imp fun d δ1 H1 A o1 v r => ⟨Γ, F, H0, ρ, δ1, hS, R.aft A, o1.bind.imp fun d2 δ2 H2 A2 o2 v2 r2 => by
    obtain ⟨res, e, q⟩ := o2.opt
    obtain ⟨i, j, rfl, rfl, ok, rfl⟩ := sRg_some e
    cases r
    cases r2
    have R2 := (R.aft A).aft A2
    exact ⟨i, j, rfl, rfl, ok, fun z hz nw => q _ (aft_nw hK hS (same_new hz) R2.dr R2.tab nw) z (fr_back A.ext A.dr (fr_back A2.ext A2.dr (fr_none hz))) (OwnN.own (d := .lst _) ⟨_, upd_same, rgs_rel i j⟩ hz (same_new hz) (by rw [hK, ← hS] at nw; exact nw))⟩⟩⟩
theorem e_tupRg1 (hK : X.K = S.K) (hc : X.calm = true) (hg : Gl X "tuple") (hm : X.mg "tuple" = none) (hg2 : Gl X "range") (hm2 : X.mg "range" = none) (ha : PE X a (rdE S C E ta)) {p2 pos2 : Pos}
    (n1 : starEach [a] X.env = (false, eval a X.env) :: starEach [] X.env) (n2 : starEach [.Call (.Name "range" p2) [a] [] pos2] X.env = (false, eval (.Call (.Name "range" p2) [a] [] pos2) X.env) :: starEach [] X.env) :
    PE X (.Call (.Name "tuple" p) [.Call (.Name "range" p2) [a] [] pos2] [] pos) (rdE S C E (dRg1 .tup ta)) :=
  (pe_tupRgN hc hg hm (prg_1 hg2 hm2 ha n1) n2).by' fun σ H Q ⟨Γ, F, H0, ρ, δ, hS, R, o⟩ => ⟨Γ, F, H0, ρ, δ, hS, R, o.bind.imp fun d δ1 H1 A o1 v r => by
    obtain ⟨res, e, q⟩ := o1.opt
    obtain ⟨i, j, e1, rfl, ok, rfl⟩ := sRg_some e
    cases e1
    cases r
    have R1 := R.aft A
    exact ⟨j, rfl, ok, fun z od hz hd nw => q _ (aft_nw hK hS (same_new hz) R1.dr R1.tab nw) _ (.tup (R1.fresh hz) (SqN.of upd_same hd) (rgs_rel 0 j))⟩⟩
end
/-! ### dict displays -/
def dPairs : List (DE × DE) → Ctx → Sls → M (List (D × D))
  | [], _, _ => M.pure []
  | (k, v) :: r, C, ρ => do
    let x ← k C ρ
    let y ← v C ρ
    let ps ← dPairs r C ρ
    M.pure ((x, y) :: ps)
def mkDct (kvs : List (D × D)) : Option D := if (kvs.all fun kv => (dKey kv.1).isSome) = true ∧ kvs.length ≤ 15 then some (.dct (kvs.foldl (fun acc kv => dput acc kv.1 kv.2) [])) else match kvs with
  | [(k, d)] => (nkey k).map fun _ => .dcn [(k, d)]
  | _ => none
def dDisp (prs : List (DE × DE)) : DE := fun C ρ => do
  let kvs ← dPairs prs C ρ
  M.opt (mkDct kvs)
inductive RelPs (Γ : Gm) (H : Hp) (O : Addr → Prop) : List (D × D) → List (V × V) → Prop
  | nil : RelPs Γ H O [] []
  | cons {d e : D} {v w : V} {ds : List (D × D)} {vs : List (V × V)} : RelD Γ H O d v → RelD Γ H O e w → RelPs Γ H O ds vs → RelPs Γ H O ((d, e) :: ds) ((v, w) :: vs)
section
variable {S : Sta} {C : Ctx} {E : XK} {X : Cx} {pos : Pos}
def tDispA (K : PySem.W.Frag) (trs : List (TE × TE)) : TE := fun σ H Q => ∀ p, H p = none → tPairs trs σ (upd H p (.dK [])) fun ps H2 => H2 p = some (.dK []) ∧
  ((∃ kvs : List (Key × V), ps = kvs.map (fun kv => (kV kv.1, kv.2)) ∧ kvs.length ≤ 15 ∧ Q (.ref p) (upd H2 p (.dK (mergeK [] kvs)))) ∨
    ∃ (Γ : Gm) (O : Addr → Prop) (k : D) (κ : NestedKey) (b : Addr) (y : V), Γ.K = K ∧ ps = [(.ref b, y)] ∧ nkey k = some κ ∧ RelD Γ H2 O k (.ref b) ∧ Q (.ref p) (upd H2 p (DNo p [(κ, b, y)])))
theorem pe_dispA {keys : List (Option Expr)} {values : List Expr} {trs : List (TE × TE)} (hu : X.A.units + 120 < cLine) (h : PPs X pos keys values trs) (hall : keys.all (·.isSome) = true) (hl : keys.length = values.length) (h0 : keys ≠ [])
    (h15 : keys.length ≤ 15) : PE X (.Dict keys values pos) (tDispA X.K trs) := by
  refine ⟨fun pins s σ H Q I q => ?_⟩
  have hn := I.hok.fresh (Nat.le_refl s.heap.objs.size)
  have I1 := I.laid (a := s.heap.objs.size) (o := .dK []) (h' := s.heap.push { cls := .type "dict", data := .dict #[] }) (t' := s.toks) (fun _ _ q => Heap.get?_push_of_some _ q) (Nat.le_refl _) (dk_empty s.heap I.big)
  have hlen := pairTrees_length keys values X.env pos hall hl
  have hne : pairTrees keys values X.env pos ≠ [] := fun he => by
    rw [he] at hlen
    exact h0 (List.length_eq_zero_iff.mp hlen.symm)
  rw [arm_eval_Dict, zip_pairTrees keys values X.env pos hall hl, dictDisplay_pairs _ hne (by omega)]
  refine wpAny_bind (wpAny_standAt (wpAny_bind ?_))
  unfold subDict
  refine wpAny_bind (wpAny_alloc ?_)
  refine wpAny_bind (wpAny_holding ?_)
  rw [if_pos (by rw [hlen]; exact h15)]
  refine wpAny_bind (wpAny_mono (wpAny_evalPairs_len (h.run pins _ σ _ _ I1 (q _ hn))) (fun ws s2 h2 => ?_) fun _ _ e => e)
  obtain ⟨hvl, ps, H2, I2, rel, e, alt⟩ := h2
  refine wpAny_holding ?_
  rcases alt with ⟨kvs, ep, lk, q2⟩ | ⟨Γ, O, k, κ, b, y, hK, ep, hk, rk, q2⟩
  · subst ep
    obtain ⟨rs, c, rk⟩ := carries_of (P := X.prog) (w := X.w) rel
    obtain ⟨z, hd, vs0, r0, dd⟩ := dk_of I2.hok e
    cases r0
    have hsz : ([] : List (Key × Value)).length + rs.length ≤ sizeLine := by
      have e := c.length
      rw [sizeLine_eq, List.length_nil]; omega
    refine wpAny_bind (wpAny_storeAll (knd := mixKind X.prog X.w) ws rs [] s2 _ c dd hsz fun h' dd' hs => wpAny_pure (wpAny_pure (wpAny_pure ⟨.ref s.heap.objs.size, _, ?_, rfl, q2⟩)))
    have hz : (mergeK [] kvs).length ≤ sizeLine := by
      have h1 := length_mergeK kvs []
      rw [List.length_nil] at h1
      rw [sizeLine_eq]; omega
    have he : ∃ q, h'.get? s.heap.objs.size = some q := let ⟨q, _, _, hq, _⟩ := dd'; ⟨q, hq⟩
    exact d_write I2 (by rw [e]; exact True.intro) hs he (dk_new hz hd (rk.merge .nil) dd')
  · subst ep
    cases rel with
    | cons r1 r2 =>
      cases r2
      rename_i qv
      obtain ⟨u1, u2⟩ := qv
      obtain ⟨r1a, r1b⟩ := r1
      cases (show u1 = Value.ref b from r1a)
      obtain ⟨hs, hm⟩ := dk_nil I2 (Rd.of e)
      have hk' := nkey_is I2 hK hk rk
      refine wpAny_bind (wpAny_storeAllH (knd := nestedKind X.prog X.w) (show X.A.units + 8 < cLine by omega) _ [(κ, b, u2)] [] s2 _ ⟨rfl, rfl, hk', trivial⟩ hm (by show 0 + 1 ≤ sizeLine; rw [sizeLine_eq]; decide) fun h' tk dd' hs' => wpAny_pure (wpAny_pure (wpAny_pure ⟨.ref s.heap.objs.size, _, ?_, rfl, q2⟩)))
      have he : ∃ q, h'.get? s.heap.objs.size = some q := let ⟨q, _, _, hq, _⟩ := dd'; ⟨q, hq⟩
      refine d_write I2 (by rw [e]; exact True.intro) hs' he (dn_ok (by show 1 ≤ sizeLine; rw [sizeLine_eq]; decide) hs (.cons ⟨rfl, rfl, r1b⟩ .nil) (fun p hp => ?_) dd')
      rw [List.mem_singleton.mp hp]
      exact ⟨k, hk⟩
theorem pe_pre {e : Expr} {t : TE} (h : PE X e t) : PE X e (fun σ H Q => NW X.K H → t σ H Q) := ⟨fun pins s σ H Q I q => h.run pins s σ H Q I (q (inv_nw I))⟩
def prR (S : Sta) (C : Ctx) (E : XK) (K : PySem.W.Frag) (p : DE × DE) : TE × TE := (fun σ H Q => NW K H → rdE S C E p.1 σ H Q, fun σ H Q => NW K H → rdE S C E p.2 σ H Q)
theorem pairs_read {K : PySem.W.Frag} {Γ : Gm} {F : Addr → Prop} {H0 : Hp} {ρ : Sls} {σ : St} (hS : Γ.toSta = S) : ∀ {prs : List (DE × DE)} {δ : Dr} {H : Hp} {Q : List (V × V) → Hp → Prop}, Rel Γ F H0 ρ δ σ H →
    OutG Γ H E (fun kvs _ H' => ∀ ps, RelPs Γ H' (Oall F ρ σ) kvs ps → Q ps H') (dPairs prs C ρ δ) → tPairs (prs.map (prR S C E K)) σ H Q
  | [], δ, H, Q, R, o => o.pure H R.refl [] .nil
  | (k, v) :: r, δ, H, Q, R, o => fun _ => ⟨Γ, F, H0, ρ, δ, hS, R, o.bind.imp fun d δ1 H1 A o1 x rx _ => ⟨Γ, F, H0, ρ, δ1, hS, R.aft A, o1.bind.imp fun e δ2 H2 A2 o2 y ry => by
      have R2 := (R.aft A).aft A2
      refine pairs_read hS R2 (o2.bind.imp fun ps δ3 H3 A3 o3 vs rv => ?_)
      have x3 := (rx.ext (A2.ext.mono R.dO)).ext (A3.ext.mono R.dO)
      have y3 := ry.ext (A3.ext.mono R.dO)
      exact o3.pure H3 (R2.aft A3).refl _ (.cons x3 y3 rv)⟩⟩
theorem relPs_keys {Γ : Gm} {H : Hp} {O : Addr → Prop} : ∀ {kvs : List (D × D)} {ps : List (V × V)}, RelPs Γ H O kvs ps → (kvs.all fun kv => (dKey kv.1).isSome) = true → ∀ {ds : List (D × D)} {ks : List (Key × V)}, RelKs Γ H O ds ks →
    ∃ kk : List (Key × V), ps = kk.map (fun kv => (kV kv.1, kv.2)) ∧ kk.length = kvs.length ∧ RelKs Γ H O (kvs.foldl (fun acc kv => dput acc kv.1 kv.2) ds) (mergeK ks kk)
  | _, _, .nil, _, _, _, r => ⟨[], rfl, rfl, r⟩
  | _, _, .cons (d := d) (e := e) (v := v) (w := w) h1 h2 t, ha, ds, ks, r => by
    rw [List.all_cons, Bool.and_eq_true] at ha
    obtain ⟨k, hk⟩ := Option.isSome_iff_exists.mp ha.1
    have := dKey_kD hk
    subst this
    have := kD_kV h1
    subst this
    obtain ⟨kk, e1, e2, e3⟩ := relPs_keys t ha.2 (r.put k h2)
    exact ⟨(k, w) :: kk, by rw [e1]; rfl, by rw [List.length_cons, List.length_cons, e2], e3⟩
theorem f_disp {keys : List (Option Expr)} {values : List Expr} {prs : List (DE × DE)} (hK : X.K = S.K) (hu : X.A.units + 120 < cLine) (h : PPs X pos keys values (prs.map (prR S C E X.K))) (hall : keys.all (·.isSome) = true) (hl : keys.length = values.length) (h0 : keys ≠ []) (h15 : keys.length ≤ 15) (hn : prs ≠ []) :
    PE X (.Dict keys values pos) (rdF S C E (dDisp prs)) :=
  (pe_dispA hu h hall hl h0 h15).by' fun σ H Q ⟨Γ, F, H0, ρ, δ, hS, R, o⟩ P hP => by
    have key : NW X.K (upd H P (.dK [])) → tPairs (prs.map (prR S C E X.K)) σ (upd H P (.dK [])) fun ps H2 => H2 P = some (.dK []) ∧
        ((∃ kvs : List (Key × V), ps = kvs.map (fun kv => (kV kv.1, kv.2)) ∧ kvs.length ≤ 15 ∧ (NW X.K (upd H2 P (.dK (mergeK [] kvs))) → Q (.ref P) (upd H2 P (.dK (mergeK [] kvs))))) ∨
          ∃ (Γ : Gm) (O : Addr → Prop) (k : D) (κ : NestedKey) (b : Addr) (y : V), Γ.K = X.K ∧ ps = [(.ref b, y)] ∧ nkey k = some κ ∧ RelD Γ H2 O k (.ref b) ∧ (NW X.K (upd H2 P (DNo P [(κ, b, y)])) → Q (.ref P) (upd H2 P (DNo P [(κ, b, y)])))) := fun nw => by
      have nw' : NW Γ.K (upd H P (.dK [])) := by rw [hS, ← hK]; exact nw
      have hk : Γ.K.lookup P = none := nw' P _ upd_same
      have A0 := aft_same (same_new (o := .dK []) hP) R.dr R.tab nw'
      have RB : Rel Γ (fun a => F a ∨ a = P) H0 ρ δ σ (upd H P (.dK [])) := R.blk (vs := []) hP hk A0 ⟨_, upd_same, fun _ z => by cases z⟩
      have ob := o.bind
      refine pairs_read hS RB ?_
      cases hr : dPairs prs C ρ δ with
      | fail => rw [hr] at ob; exact ob
      | exc c as δ1 => rw [hr] at ob; exact fun cls dx H' A => ob cls dx H' (A0.trans A)
      | ok kvs δ1 =>
        rw [hr] at ob
        intro H1 A ps rp
        have dP : ¬ Γ.DR P := fun z => R.fresh hP (.inl (R.dF P z))
        have h1P : H1 P = some (.dK []) := A.ext P _ upd_same dP fun _ z => by cases z
        have A1 := A0.trans A
        cases hm : mkDct kvs with
        | none => have := ob H1 A1; simp only [hm] at this; exact this.elim
        | some r =>
          have hm' := hm
          unfold mkDct at hm
          split at hm
          · rename_i hc
            cases hm
            obtain ⟨kk, e1, e2, e3⟩ := relPs_keys rp hc.1 .nil
            refine ⟨h1P, .inl ⟨kk, e1, by rw [e2]; exact hc.2, fun nw2 => ?_⟩⟩
            have AF : Aft Γ δ1 H (upd H1 P (.dK (mergeK [] kk))) := ⟨fun a o e n t => by
                have ha : a ≠ P := fun z => by rw [z, hP] at e; cases e
                rw [upd_ne ha]
                exact A1.ext a o e n t, A1.dr.upd dP, by rw [hS, ← hK]; exact nw2, tabs_upd A1.tab h1P (fun _ z => by cases z) fun _ z => by cases z⟩
            have fin := ob _ AF
            simp only [hm'] at fin
            refine fin _ ⟨Ext.refl _ _, AF.dr, AF.nw, AF.tab⟩ P (fr_none hP) ⟨_, upd_same, e3.mv (O' := fun b => Oall F ρ σ b ∨ b = P) (O := Oall (fun a => F a ∨ a = P) ρ σ) ?_ ?_⟩
            · intro a o e n _
              rw [upd_ne fun z => n (.inl (.inr z))]; exact e
            · rintro a _ n ((z | z) | z)
              · exact n (.inl (.inl z))
              · exact n (.inr z)
              · exact n (.inl (.inr z))
          · split at hm
            · rename_i k d hc
              obtain ⟨κ, hκ, rfl⟩ := Option.map_eq_some_iff.mp hm
              cases rp with
              | cons rk rd rr =>
                cases rr
                obtain ⟨b, rfl, rkb⟩ := nkey_ref hκ rk.p
                refine ⟨h1P, .inr ⟨Γ, _, k, κ, b, _, by rw [hK, ← hS], rfl, hκ, rkb, fun nw2 => ?_⟩⟩
                have AF : Aft Γ δ1 H (upd H1 P (DNo P [(κ, b, _)])) := ⟨fun a o e n t => by
                    have ha : a ≠ P := fun z => by rw [z, hP] at e; cases e
                    rw [upd_ne ha]
                    exact A1.ext a o e n t, A1.dr.upd dP, by rw [hS, ← hK]; exact nw2, tabs_upd A1.tab h1P (fun _ z => by cases z) fun _ z => by cases z⟩
                have fin := ob _ AF
                simp only [hm'] at fin
                have e3 : RelN Γ H1 (Oall (fun a => F a ∨ a = P) ρ σ) [(k, d)] [(κ, b, _)] := .cons hκ rkb rd .nil
                refine fin _ ⟨Ext.refl _ _, AF.dr, AF.nw, AF.tab⟩ P (fr_none hP) ⟨_, upd_same, e3.mv (O' := fun b => Oall F ρ σ b ∨ b = P) (O := Oall (fun a => F a ∨ a = P) ρ σ) ?_ ?_⟩
                · intro a o e n _
                  rw [upd_ne fun z => n (.inl (.inr z))]; exact e
                · rintro a _ n ((z | z) | z)
                  · exact n (.inl (.inl z))
                  · exact n (.inr z)
                  · exact n (.inl (.inr z))
            · cases hm
    cases prs with
    | nil => exact absurd rfl hn
    | cons p r => exact fun nw => key nw nw
theorem f_dnew (hK : X.K = S.K) : PE X (.Dict [] [] pos) (rdF S C E (dC (.dct []))) := pe_dnewK.by' fun σ H Q ⟨Γ, F, H0, ρ, δ, hS, R, o⟩ P hP nw =>
  o _ (aft_nw hK hS (same_new hP) R.dr R.tab nw) P (fr_none hP) ⟨_, upd_same, .nil⟩
end
/-! ### t.index(x) -/
def sTIdx (ds : List D) : D → Option D
  | .int k => (intsD ds).bind fun ns => if k ∈ ns then some (.int (ns.idxOf k : Nat)) else none
  | _ => none
def dTIdx (a b : DE) : DE := fun C ρ => do
  let x ← a C ρ
  match x with
  | .tup ds => do
    let y ← b C ρ
    M.opt (sTIdx ds y)
  | _ => fun _ => .fail
section
variable {S : Sta} {C : Ctx} {E : XK} {X : Cx} {o e : Expr} {apos cpos : Pos} {ta tb : DE}
theorem e_tidx (hK : X.K = S.K) (ho : PE X o (rdE S C E ta)) (he : PE X e (rdE S C E tb)) (hbase : attributeBase o "index" X.env (eval o X.env) = eval o X.env)
    (hfew : ((backTo cpos (starEach [e] X.env)).all (fun x => !x.1) && (backToKw cpos (keywordEach [] X.env)).all (fun x => x.1.isSome) && decide ([e].length + ([] : List Keyword).length + (if ([] : List Keyword).isEmpty then 0 else 1) < 30)) = true)
    (hline : (apos.endLine == cpos.line) = true) (hs : starEach [e] X.env = (false, eval e X.env) :: starEach [] X.env) (hp : (backTo cpos (starEach [] X.env)).any (·.1) = false) :
    PE X (.Call (.Attribute o "index" apos) [e] [] cpos) (rdE S C E (dTIdx ta tb)) :=
  (pe_tm F.slot_tuple_index F.type_tuple_index mt_tidx ho (pa_cons he pa_nil hs) hbase hfew hline hs hp).by' fun σ H Q ⟨Γ, F, H0, ρ, δ, hS, R, o⟩ => ⟨Γ, F, H0, ρ, δ, hS, R, o.bind.imp fun d δ1 H1 A o1 x rx => by
    subst hS
    cases d <;> first | exact o1.elim | skip
    have R1 := R.aft A
    have rx0 := rx
    cases rx with
    | @tup a vs ds na hq rr =>
      refine ⟨⟨a, vs, rfl, hK ▸ hq⟩, Γ, F, H0, ρ, δ1, rfl, R1, o1.bind.imp fun d2 δ2 H2 A2 o2 y ry => ?_⟩
      obtain ⟨res, e, q⟩ := o2.opt
      have R2 := R1.aft A2
      have rx2 := rx0.ext (A2.ext.mono R.dO)
      cases d2 <;> simp only [sTIdx, reduceCtorEq] at e
      obtain ⟨ns, h1, h2⟩ := Option.bind_eq_some_iff.mp e
      split at h2
      · rename_i k hk
        cases h2
        cases ry
        cases rx2 with
        | tup na2 hq2 rr2 =>
          have := ints_rel rr2 h1
          subst this
          exact ⟨a, ns, k, rfl, rfl, hK ▸ hq2.t, hk, fun nw => q H2 R2.refl _ (.int _)⟩
      · cases h2⟩
end
end SG

set_option Elab.async false
set_option linter.all false
set_option maxRecDepth 100000
set_option maxHeartbeats 4000000
namespace SG
open PySem PySem.Spec L2
open PyProof.Rows hiding St
/-! ### for the printed proofs -/
section
variable {S : Sta} {C : Ctx} {E : XK} {X : Cx} {j k : Nat} {pos : Pos} {x : Str} {i : Int} {z : Str}
theorem e_int : PE X (.Constant (.int i) j pos) (rdE S C E (dC (.int i))) := e_c pe_int fun _ _ _ _ => .int _
theorem e_str : PE X (.Constant (.str z) j pos) (rdE S C E (dC (.str z))) := e_c pe_str fun _ _ _ _ => .str _
theorem e_bl {b : Bool} : PE X (.Constant (.bool b) j pos) (rdE S C E (dC (.bl b))) := e_c pe_bl fun _ _ _ _ => .bl _
theorem e_non : PE X (.Constant .none j pos) (rdE S C E (dC .non)) := e_c pe_non fun _ _ _ _ => .non
theorem e_gint (h : ∃ t, X.mg x = some (.int i t)) (hg : Gl X x) (hd : (x == ("__debug__" : Str)) = false) : PE X (.Name x pos) (rdE S C E (dC (.int i))) := by
  obtain ⟨t, h⟩ := h
  exact e_c (pe_glob (v := .int i) hg h ⟨t, rfl⟩ hd) fun _ _ _ _ => .int _
theorem e_gstr (h : ∃ t, X.mg x = some (.str z t)) (hg : Gl X x) (hd : (x == ("__debug__" : Str)) = false) : PE X (.Name x pos) (rdE S C E (dC (.str z))) := by
  obtain ⟨t, h⟩ := h
  exact e_c (pe_glob (v := .str z) hg h ⟨t, rfl⟩ hd) fun _ _ _ _ => .str _
theorem hu_of {A : Around} (r : Room k A) : A.units + 120 < cLine := by have := r.un; omega
end
def blkB (N : List Str) (sc scope : Scope) (own : List (Str × Nat)) : Bool :=
  decide (scope.kind = .function) && (scope.names.all (fun y => decide (scope.names.lookup y.1 = some y.2)) && (own.all (fun p => decide (N[p.2]? = some p.1)) &&
    (scope.names.all (fun y => !decide (y.2 = .free) || (decide (sc.names.lookup y.1 = some .cell) || decide (sc.names.lookup y.1 = some .free))) &&
      scope.names.all (fun y => !(decide (y.2 = .local) || decide (y.2 = .cell)) || (decide (y.1 ∈ own.map (·.1)) || decide (y.1 ∉ N))))))
theorem blk_of {N : List Str} {sc scope : Scope} {own : List (Str × Nat)} (h : blkB N sc scope own = true) : BlkOk N sc scope own := by
  unfold blkB at h
  simp only [Bool.and_eq_true, decide_eq_true_eq, List.all_eq_true, Bool.or_eq_true, Bool.not_eq_true', decide_eq_false_iff_not] at h
  obtain ⟨h1, h2, h3, h4, h5⟩ := h
  refine ⟨h1, h2, h3, fun y hy e => ?_, fun y hy e => ?_⟩
  · rcases h4 y hy with z | z
    · exact absurd e z
    · exact z
  · rcases h5 y hy with z | z
    · exact absurd e (by simpa using z)
    · exact z
section
variable {S : Sta} {C : Ctx} {E : XK} {X : Cx} {st : Stmt} {z1 z2 z3 : DZ} {i j k : Nat}
/-- a, b = x, y where a name is a cell -/
theorem s_par2c (hK : X.K = S.K) (h : PS X st (tAsg (tTup (tCons (rdZ S C E z1) (tCons (rdZ S C E z2) tNil))) (gTup X.K 2 (gCons (gName i) (gCons (gName j) gNil))))) : PS X st (rdS S C E (dPar2 i j z1 z2)) := h.nw.mono fun T σ H ⟨Γ, F, H0, ρ, δ, hS, R, o⟩ =>
  ⟨Γ, F, H0, ρ, δ, hS, R, (o.bindG R.ext).imp fun s δ1 H1 A o1 v p1 => by
    have R1 := R.push A p1
    have Rh := R1.hide R.len
    exact ⟨Γ, _, H0, ρ, δ1, hS, Rh, (o1.bindG (R.aft A).ext).imp fun u δ2 H2 A2 o2 w p2 => by
      obtain ⟨ρ', e, q⟩ := o2.optS
      split at e
      · rename_i hc
        cases e
        have RF := (R1.push A2 (PZ.of R.len p2)).set2 R.len hc.2.1 hc.2.2
        exact ⟨show 2 ≤ sizeLine by decide, fun P hP => ⟨P, [v, w], rfl, SqT.of upd_same, rfl, _, _, rfl, _, _, rfl, rfl, fun nw => q _ _ (RF.aft (aft_same (same_new hP) RF.dr RF.tab (by rw [hK, ← hS] at nw; exact nw)))⟩⟩
      · cases e⟩⟩
theorem s_par3c (hK : X.K = S.K) (h : PS X st (tAsg (tTup (tCons (rdZ S C E z1) (tCons (rdZ S C E z2) (tCons (rdZ S C E z3) tNil)))) (gTup X.K 3 (gCons (gName i) (gCons (gName j) (gCons (gName k) gNil)))))) : PS X st (rdS S C E (dPar3 i j k z1 z2 z3)) := h.nw.mono fun T σ H ⟨Γ, F, H0, ρ, δ, hS, R, o⟩ =>
  ⟨Γ, F, H0, ρ, δ, hS, R, (o.bindG R.ext).imp fun s δ1 H1 A o1 v p1 => by
    have R1 := R.push A p1
    have Rh := R1.hide R.len
    exact ⟨Γ, _, H0, ρ, δ1, hS, Rh, (o1.bindG (R.aft A).ext).imp fun u δ2 H2 A2 o2 w p2 => by
      have R2 := R1.push A2 (PZ.of R.len p2)
      rw [List.append_assoc, List.append_assoc] at R2
      have Rh2 := R2.hide R.len
      exact ⟨Γ, _, H0, ρ, δ2, hS, Rh2, (o2.bindG ((R.aft A).aft A2).ext).imp fun x δ3 H3 A3 o3 y p3 => by
        obtain ⟨ρ', e, q⟩ := o3.optS
        split at e
        · rename_i hc
          cases e
          have R3 := R2.push A3 (PZ.of R.len p3)
          rw [← List.append_assoc, ← List.append_assoc] at R3
          have RF := R3.set3 R.len hc.2.1 hc.2.2.1 hc.2.2.2.1 hc.2.2.2.2.1 hc.2.2.2.2.2
          exact ⟨show 3 ≤ sizeLine by decide, fun P hP => ⟨P, [v, w, y], rfl, SqT.of upd_same, rfl, _, _, rfl, _, _, rfl, _, _, rfl, rfl, fun nw => q _ _ (RF.aft (aft_same (same_new hP) RF.dr RF.tab (by rw [hK, ← hS] at nw; exact nw)))⟩⟩
        · cases e⟩⟩⟩
end
end SG

set_option Elab.async false
set_option linter.all false
set_option maxRecDepth 100000
set_option maxHeartbeats 4000000
namespace SG
open PySem PySem.Spec L2
open PyProof.Rows hiding St
/-! ### the draws begun -/
theorem lc_ints {K : PySem.W.Frag} {a : Addr} {ns : List Int} {p : Int → Bool} {f : Int → Int} {i j : Nat} {tt : TT} {te : TE} {σ : St} {H : Hp} {Q : VK} (hj : σ[j]? = some (some (.ref a))) (hi : i < σ.length) (hs : SqL K H a (ns.map V.int)) (hl : ns.length ≤ LINE)
    (ht : ∀ (σ : St) H n Q, σ[i]? = some (some (V.int n)) → Q (p n) H → tt σ H Q) (he : ∀ (σ : St) H n Q, σ[i]? = some (some (V.int n)) → Q (.int (f n)) H → te σ H Q)
    (q : ∀ D, H D = none → Q (.ref D) (upd H D (.lst (((ns.filter p).map f).map V.int)))) : tLc (iList K (tVar j)) (gName i) tt te [i] σ H Q := by
  refine ⟨_, hj, a, rfl, ⟨_, hs⟩, fun D hD => ?_⟩
  have keep : ∀ ys, SqL K (upd H D (.lst ys)) a (ns.map V.int) := fun ys => by
    rcases hs with (h | ⟨o, h⟩) | h
    · exact .inl (.inl (by rw [upd_ne fun z => by rw [z, hD] at h; cases h]; exact h))
    · exact .inl (.inr ⟨o, by rw [upd_ne fun z => by rw [z, hD] at h; cases h]; exact h⟩)
    · exact .inr h
  have len : (ns.map V.int).length = ns.length := List.length_map ..
  refine lc_it (walk_list (xs := ns.map V.int)) (fun k H' => H' = upd H D (.lst ((((ns.take k).filter p).map f).map V.int))) rfl ?_ ?_ ?_
  · rintro k H' hk rfl
    exact keep _
  · rintro k x H' H'' hk rfl ⟨rfl, hx⟩
    rw [len] at hk
    rw [List.getElem?_map, List.getElem?_eq_getElem hk] at hx
    cases hx
    have hw : ((wipe σ [i]).set i (some (V.int ns[k])))[i]? = some (some (V.int ns[k])) := List.getElem?_set_self (by rw [wipe_length]; exact hi)
    refine ⟨?_, ht _ _ ns[k] _ hw ?_⟩
    · show List.set ((wipe σ [i]).set i _) i none = (wipe σ [i])
      rw [List.set_set]
      exact wipe_idem (vs := [i])
    have tk : ns.take (k + 1) = ns.take k ++ [ns[k]] := by rw [List.take_succ_eq_append_getElem hk]
    cases hp : p ns[k] with
    | false =>
      show if false = true then _ else _
      rw [if_neg Bool.false_ne_true, tk, List.filter_append]
      simp [hp]
    | true =>
      show if true = true then _ else _
      rw [if_pos rfl]
      refine he _ _ ns[k] _ hw ⟨_, upd_same, ?_, ?_⟩
      · rw [List.length_map, List.length_map, ← LINE_eq]
        have := List.length_filter_le p (ns.take k)
        rw [List.length_take] at this
        omega
      · rw [tk, List.filter_append]
        simp [hp, upd_upd]
  · rintro H' rfl
    rw [len, List.take_length]
    exact q D hD
def absI (i : Int) : Int := if i < 0 then -i else i
def largeI (ns : List Int) : List Int := (ns.filter fun n => decide ((10 : Int) ^ 18 ≤ absI n)).map fun n => absI n - 10 ^ 18
def cellsI (ns : List Int) : List Int := ns.map absI
/-- what _law_begun promises -/
def spBegun (K : PySem.W.Frag) : Sp := fun vs H Q _ => ∃ (a : Addr) (ns : List Int), vs = [.ref a] ∧ SqL K H a (ns.map V.int) ∧ ns.length ≤ LINE ∧
  ∀ dl dw dc, H dl = none → (upd H dl (.lst ((largeI ns).map V.int))) dw = none → (upd (upd H dl (.lst ((largeI ns).map V.int))) dw (.dK [])) dc = none →
    Q (.ref dw) (upd (upd (upd (upd H dl (.lst ((largeI ns).map V.int))) dw (.dK [])) dc (.lst ((cellsI ns).map V.int))) dw (.dK [(.inr "large", .ref dl), (.inr "rest", .int 0), (.inr "cells", .ref dc), (.inr "turn", .int 0)]))
abbrev rdAbs (i : Nat) : TE := tCB (fun xs H Q => ∃ n : Int, xs = [.int n] ∧ Q (.int (if n < 0 then -n else n)) H) (tCons (tVar i) tNil)
abbrev rdTen : TE := tOp (rI CPow fun i j => .int (i ^ j.toNat)) (tC (.int 10)) (tC (.int 18))
abbrev tBegun (K : PySem.W.Frag) : TS :=
  tSeq (tAsg (tLc (iList K (tVar 0)) (gName 2) (tTest (tOp (rI0 fun i j => .bl (decide (j ≤ i))) (rdAbs 2) rdTen)) (tOp (rI0 fun i j => .int (i - j)) (rdAbs 2) rdTen) [2]) (gName 1))
    (tRet (tDisp [(tC (.str "large"), tVar 1), (tC (.str "rest"), tC (.int 0)), (tC (.str "cells"), tLc (iList K (tVar 0)) (gName 2) tYes (rdAbs 2) [2]), (tC (.str "turn"), tC (.int 0))]))
theorem begun_read {K : PySem.W.Frag} {vs : List V} {H : Hp} {Q : VK} {E : XK} (h : spBegun K vs H Q E) : tBegun K { nx := fun _ H' => Q .non H', rt := Q } (L2.start ["script", "large", "cell"] vs) H := by
  obtain ⟨a, ns, rfl, hs, hl, q⟩ := h
  have rd : ∀ (σ : St) H n Q, σ[2]? = some (some (V.int n)) → Q (.int (absI n)) H → rdAbs 2 σ H Q := fun σ H n Q e k => ⟨_, e, n, rfl, k⟩
  show tLc (iList K (tVar 0)) (gName 2) (tTest (tOp (rI0 fun i j => .bl (decide (j ≤ i))) (rdAbs 2) rdTen)) (tOp (rI0 fun i j => .int (i - j)) (rdAbs 2) rdTen) [2] [some (.ref a), none, none] H (fun v H1 => tRet (tDisp [(tC (.str "large"), tVar 1), (tC (.str "rest"), tC (.int 0)), (tC (.str "cells"), tLc (iList K (tVar 0)) (gName 2) tYes (rdAbs 2) [2]), (tC (.str "turn"), tC (.int 0))]) { nx := fun _ H' => Q .non H', rt := Q } ([some (.ref a), none, none].set 1 (some v)) H1)
  refine lc_ints (p := fun n => decide ((10 : Int) ^ 18 ≤ absI n)) (f := fun n => absI n - 10 ^ 18) (a := a) (ns := ns) (i := 2) (j := 0) (σ := [some (.ref a), none, none]) rfl (by simp) hs hl ?_ ?_ ?_
  · exact fun σ H n Q e k => ⟨_, e, n, rfl, 10, 18, rfl, rfl, ⟨by decide, by decide, by decide⟩, _, _, rfl, rfl, _, rfl, k⟩
  · exact fun σ H n Q e k => ⟨_, e, n, rfl, 10, 18, rfl, rfl, ⟨by decide, by decide, by decide⟩, _, _, rfl, rfl, k⟩
  · intro dl hdl dw hdw
    refine ⟨.ref dl, rfl, ?_⟩
    have hs2 : SqL K (upd (upd H dl (.lst ((largeI ns).map V.int))) dw (.dK [])) a (ns.map V.int) := by
      have e : ∀ (H : Hp) (d : Addr) u, H d = none → SqL K H a (ns.map V.int) → SqL K (upd H d u) a (ns.map V.int) := fun H d u hd h => by
        rcases h with (h | ⟨o, h⟩) | h
        · exact .inl (.inl (by rw [upd_ne fun z => by rw [z, hd] at h; cases h]; exact h))
        · exact .inl (.inr ⟨o, by rw [upd_ne fun z => by rw [z, hd] at h; cases h]; exact h⟩)
        · exact .inr h
      exact e _ _ _ hdw (e _ _ _ hdl hs)
    show tLc (iList K (tVar 0)) (gName 2) tYes (rdAbs 2) [2] [some (.ref a), some (.ref dl), none] (upd (upd H dl (.lst ((largeI ns).map V.int))) dw (.dK [])) (fun dcv H2 => H2 dw = some (.dK []) ∧ ∃ kvs : List (Key × V), [(V.str "large", V.ref dl), (.str "rest", .int 0), (.str "cells", dcv), (.str "turn", .int 0)] = kvs.map (fun kv => (kV kv.1, kv.2)) ∧ kvs.length ≤ 15 ∧ Q (.ref dw) (upd H2 dw (.dK (mergeK [] kvs))))
    refine lc_ints (p := fun _ => true) (f := absI) (a := a) (ns := ns) (i := 2) (j := 0) (σ := [some (.ref a), some (.ref dl), none]) rfl (by simp) hs2 hl (fun σ H n Q e k => k) rd fun dc hdc => ?_
    refine ⟨?_, [(.inr "large", .ref dl), (.inr "rest", .int 0), (.inr "cells", .ref dc), (.inr "turn", .int 0)], rfl, (show 4 ≤ 15 by decide), ?_⟩
    · rw [upd_ne fun z => by rw [← z, upd_same] at hdc; cases hdc]; exact upd_same
    · have e : (ns.filter fun _ => true) = ns := List.filter_eq_self.mpr fun _ _ => rfl
      rw [e]
      exact q dl dw dc hdl hdw hdc
end SG

set_option Elab.async false
set_option linter.all false
set_option maxRecDepth 100000
set_option maxHeartbeats 4000000
namespace SG
open PySem PySem.Spec L2
open PyProof.Rows hiding St
/-! ### a law's end -/
theorem walk_ofX {l : PySem.W.OpenLaw} {n k : Nat} {q : Program} {loose : List Str} {XP : (Str → Option Value) → Heap → Prop} {YP : World → Heap → Prop} {d : DefRec} {x : Str} (CX : World → CXT)
    (hn : l.most = some n) (hn2 : n ≤ sizeLine) (hdf : d.params.defaults = []) (hr : Room k callerA)
    (F : ∀ (w : World) (mg : Str → Option Value) (fa : Addr) (h : Heap), YP w h → h.Ns mainGlobals mg → mg d.name = some (.ref fa) →
      ∃ (K : PySem.W.Frag) (fd : FuncData) (sp : Sp), K.In h ∧ (∀ (s : Shared) (u : Value), BindsTo s fd ⟨[u], []⟩ [(x, u)]) ∧
        (∀ (H : Hp) (a : Addr) (ns : List Int), ns.length ≤ n → Only H → SqL K H a (ns.map V.int) → sp [.ref a] H (fun v _ => v = .bl true) fun _ _ _ => False) ∧
        ∀ base : Heap, K.In base → base.Ns mainGlobals mg → FnOk l.prog w K mg base (CX w) k fa fd [x] sp)
    (hCX : ∀ (w : World) (H : Hp) (s : Shared) (e : Value) (s' : Shared), CX w [] H s (fun _ _ _ => False) e s' → False) :
    PySem.W.WalkO q loose XP YP l.row.toRowW d [] (fun f vs => PySem.call f vs) := by
  refine Att.attach_call hn hdf fun w s0 s1 mg mb fa o pm cd doc a vs ns G Y ho hd hcd hmg hobj hints hlen hg => ?_
  obtain ⟨K, fd, sp, KX, hb, hsp, hF⟩ := F w mg fa _ Y G.T.g hmg
  exact law_call KX G.T.g G.T.b G.T.builtins G.T.nolimit hg hobj hints (Nat.le_trans hlen hn2) hr hF hb (fun H hO hS => hsp H a ns hlen hO hS) fun H e s' => hCX w H s1 e s'
theorem cx_none {P : Program} {w : World} {H : Hp} {s s' : Shared} {e : Value} (z : L2.CX P w [] H s (fun _ _ _ => False) e s') : False := by
  obtain ⟨a, B, H', cls, d, _, _, _, _, _, _, _, h⟩ := z
  exact h
theorem fn_zero {P : Program} {w : World} {K : PySem.W.Frag} {mg : Str → Option Value} {base : Heap} {S : Sta} {f : Addr} {fd : FuncData} {ps : List Str} {CX : CXT} : FnOk P w K mg base CX 0 f fd ps (spEv S fun _ _ => .fail) :=
  ⟨fun _ _ _ _ ⟨_, _, _, _, _, _, _, _, _, _, _, o⟩ => o.elim, fun _ _ _ _ _ _ _ _ _ _ _ _ _ ⟨_, _, _, _, _, _, _, _, _, _, _, o⟩ => o.elim⟩
def spLaw (K : PySem.W.Frag) (T : List (Addr × Str)) : Sp := fun vs H Q _ => ∃ (a : Addr) (ns : List Int), vs = [.ref a] ∧ SqL K H a (ns.map V.int) ∧ ns.length ≤ 63 ∧ LamX.Tabs T H ∧ ∀ H', Q (.bl true) H'
def dr0 (ns : List Int) : Dr := ⟨largeI ns, 0, 0, cellsI ns⟩
theorem sqL_new {K : PySem.W.Frag} {H : Hp} {d a : Addr} {xs : List V} {o : HO} (hd : H d = none) (h : SqL K H a xs) : SqL K (upd H d o) a xs := by
  rcases h with (h | ⟨u, h⟩) | h
  · exact .inl (.inl (by rw [upd_ne fun z => by rw [z, hd] at h; cases h]; exact h))
  · exact .inl (.inr ⟨u, by rw [upd_ne fun z => by rw [z, hd] at h; cases h]; exact h⟩)
  · exact .inr h
section
variable {P : Program} {w : World} {K : PySem.W.Frag} {mg : Str → Option Value} {base : Heap} {params : Arguments} {st : Stmt} {rest : List Stmt} {scope : Scope} {f : Addr} {fd : FuncData} {N : List Str} {S : Sta} {C : Ctx} {c : DS} {k : Nat}
theorem law_ok (F : FunD K "law" "law" params (st :: rest) scope [] [] f fd) (hf : f = He.fAd K ("law", none)) (Sc : FnScope N ["script"] scope) (hK : K = S.K) (hl : 2 ≤ N.length)
    (hb : ∀ (cdv : Value) (A : Around) (outer : List Env) (s : Shared) (H : Hp) (E : XK), cdv = .ref (He.codeOf K ("law", none)) → Room k (A.deeper (envOfC "law" scope s.heap.objs.size f cdv)) →
      PS (cxOf (L2.CX P w) P w K mg base N "law" scope f cdv A outer s H E) st (tAsg (tCall (spBegun K) [] E (tCons (tVar 0) tNil)) (gName 1)) ∧ PSs (cxOf (L2.CX P w) P w K mg base N "law" scope f cdv A outer s H E) rest (rdS S C E c))
    (law : ∀ ns : List Int, ns.length ≤ 63 → ∃ δ', c C (.val (.scr ns) :: .val .draw :: List.replicate (N.length - 2) .no) (dr0 ns) = .ok (.rt (.bl true)) δ') :
    FnOk P w K mg base (L2.CX P w) (k + 1) f fd ["script"] (spLaw K S.tabs) := by
  obtain ⟨oc, od, dV, kV, doc, pm, an, cdv, ct, osl, rfl, lk, hcd, _, _⟩ := F.ex
  obtain ⟨cc, hcc⟩ := He.codeIn_ref hcd
  have hcode : cdv = .ref (He.codeOf K ("law", none)) := by
    rw [He.codeOf_eq (p := ("law", none)) (c := cc) (by rw [← hf]; exact lk) hcc]
    exact hcc
  refine fn_of lk hcd Sc (fun vs H Q E ⟨a, ns, e, _⟩ => by rw [e]; rfl) fun A outer s H vs Q E hr ⟨a, ns, e, hs, hn, hT, q⟩ => ?_
  subst e
  obtain ⟨h0, h1⟩ := hb cdv A outer s H E hcode hr
  refine ⟨_, pss_cons h0.nw h1, ?_⟩
  obtain ⟨m, hm⟩ : ∃ m, N.length = m + 2 := ⟨N.length - 2, by omega⟩
  have e0 : L2.start N [.ref a] = some (.ref a) :: none :: List.replicate m none := by
    unfold L2.start
    rw [hm]
    rfl
  rw [e0]
  have hN2 : N.length - 2 = m := by omega
  refine ⟨.ref a, rfl, a, ns, rfl, hs, Nat.le_trans hn (by decide), fun dl dw dc h1 h2 h3 nw => ?_⟩
  have n1 : dw ≠ dl := fun z => by rw [z, upd_same] at h2; cases h2
  have n2 : dc ≠ dw := fun z => by rw [z, upd_same] at h3; cases h3
  have n3 : dc ≠ dl := fun z => by rw [upd_ne n2, z, upd_same] at h3; cases h3
  obtain ⟨δ', hlaw⟩ := law ns hn
  let HF := upd (upd (upd (upd H dl (.lst ((largeI ns).map V.int))) dw (.dK [])) dc (.lst ((cellsI ns).map V.int))) dw (.dK [(.inr "large", .ref dl), (.inr "rest", .int 0), (.inr "cells", .ref dc), (.inr "turn", .int 0)])
  have sF : SqL K HF a (ns.map V.int) := by
    have s3 := sqL_new (o := .lst ((cellsI ns).map V.int)) h3 (sqL_new (o := .dK []) h2 (sqL_new (o := .lst ((largeI ns).map V.int)) h1 hs))
    have nd : (∃ o, H a = some o) → a ≠ dw := fun ⟨o, e⟩ z => by
      rw [z] at e
      rw [upd_ne n1, e] at h2
      cases h2
    rcases s3 with (h | ⟨u, h⟩) | h
    · refine .inl (.inl ?_)
      show upd _ dw _ a = _
      have : a ≠ dw := fun z => by rw [z, upd_ne (Ne.symm n2), upd_same] at h; cases h
      rw [upd_ne this]; exact h
    · refine .inl (.inr ⟨u, ?_⟩)
      show upd _ dw _ a = _
      have : a ≠ dw := fun z => by rw [z, upd_ne (Ne.symm n2), upd_same] at h; cases h
      rw [upd_ne this]; exact h
    · exact .inr h
  let Γ : Gm := { S with dw := dw, dl := dl, dc := dc }
  have dr : DrawRel Γ (dr0 ns) HF := by
    refine ⟨upd_same, ?_, ?_, n1, Ne.symm n2, Ne.symm n3⟩
    · show upd _ dw _ dl = _
      rw [upd_ne (Ne.symm n1), upd_ne (Ne.symm n3), upd_ne (Ne.symm n1), upd_same]; rfl
    · show upd _ dw _ dc = _
      rw [upd_ne n2, upd_same]; rfl
  have nD : ¬ Γ.DR a := by
    intro z
    have tr : ∀ d, (d = dw ∨ d = dl ∨ d = dc) → a = d → False := by
      rintro d hd rfl
      have hH : H a = none := by
        rcases hd with rfl | rfl | rfl
        · rw [upd_ne n1] at h2; exact h2
        · exact h1
        · rw [upd_ne n2, upd_ne n3] at h3; exact h3
      obtain ⟨u, hu⟩ : ∃ u, HF a = some u := by
        rcases hd with rfl | rfl | rfl
        · exact ⟨_, dr.1⟩
        · exact ⟨_, dr.2.1⟩
        · exact ⟨_, dr.2.2.1⟩
      rcases hs with (h | ⟨o, h⟩) | ⟨o, its, n, hk, _⟩
      · rw [hH] at h; cases h
      · rw [hH] at h; cases h
      · have e : K.lookup a = none := nw a u hu
        rw [e] at hk
        cases hk
    exact tr a z rfl
  have no : ∀ (i : Nat) (d : D), (Sl.val (.scr ns) :: Sl.val .draw :: List.replicate m Sl.no)[i]? ≠ some (.own d) := by
    intro i d h
    rcases i with _ | _ | i
    · cases h
    · cases h
    · simp only [List.getElem?_cons_succ] at h
      obtain ⟨_, h2⟩ := List.getElem?_eq_some_iff.mp h
      simp at h2
  have oall : ∀ b, Oall Γ.DR (Sl.val (.scr ns) :: Sl.val .draw :: List.replicate m Sl.no) (some (.ref a) :: some (.ref dw) :: List.replicate m none) b → Γ.DR b := by
    rintro b (z | ⟨i, d, z, _⟩)
    · exact z
    · exact absurd z (no i d)
  have R : Rel Γ Γ.DR HF (.val (.scr ns) :: .val .draw :: List.replicate m .no) (dr0 ns) (some (.ref a) :: some (.ref dw) :: List.replicate m none) HF := {
    len := by simp
    val := fun i d h => by
      rcases i with _ | _ | i
      · cases h
        exact ⟨_, rfl, .scr (fun z => nD (oall a z)) (by show SqL S.K HF a _; rw [← hK]; exact sF)⟩
      · cases h
        exact ⟨_, rfl, .draw⟩
      · simp only [List.getElem?_cons_succ] at h
        obtain ⟨_, h2⟩ := List.getElem?_eq_some_iff.mp h
        simp at h2
    own := fun i d h => absurd h (no i d)
    inj := fun i j d e a h => absurd h (no i d)
    dr := dr
    dF := fun _ z => z
    ftr := fun b z => dr.there z
    ext := Ext.refl _ _
    nw := by show NW S.K HF; rw [← hK]; exact nw
    tab := by
      show LamX.Tabs S.tabs HF
      refine hT.ext fun b o e => ?_
      have b1 : b ≠ dl := ne_of_none e h1
      have b2 : b ≠ dw := fun z => by rw [z] at e; rw [upd_ne n1, e] at h2; cases h2
      have b3 : b ≠ dc := fun z => by rw [z] at e; rw [upd_ne n2, upd_ne n3, e] at h3; cases h3
      show upd _ dw _ b = _
      rw [upd_ne b2, upd_ne b3, upd_ne b2, upd_ne b1]
      exact e }
  rw [hN2] at hlaw
  refine ⟨Γ, Γ.DR, HF, _, dr0 ns, rfl, R, ?_⟩
  rw [hlaw]
  intro v H' A r
  cases r
  exact q H'
end
end SG

set_option Elab.async false
set_option linter.all false
set_option maxRecDepth 100000
set_option maxHeartbeats 4000000
namespace SG
open PySem PySem.Spec L2
open PyProof.Rows hiding St
/-! ### tuples of the module -/
def ktAll (f : D → Value → Bool) : List D → List Value → Bool
  | [], [] => true
  | d :: ds, u :: us => f d u && ktAll f ds us
  | _, _ => false
def isTupT : Value → Bool
  | .type n => decide (n = "tuple")
  | _ => false
def ktB (K : PySem.W.Frag) : Nat → D → Value → Bool
  | 0, _, _ => false
  | _ + 1, .int i, .int j _ => decide (i = j)
  | _ + 1, .str x, .str y _ => decide (x = y)
  | n + 1, .tup ds, .ref a => match K.lookup a with
    | some ⟨c, none, .seq its _, _⟩ => isTupT c && (decide (its.size ≤ sizeLine) && ktAll (ktB K n) ds its.toList)
    | _ => false
  | _, _, _ => false
theorem kt_rel {Γ : Gm} {H : Hp} {O : Addr → Prop} (hO : ∀ a o, Γ.K.lookup a = some o → ¬ O a) : ∀ (n : Nat) (d : D) (u : Value), ktB Γ.K n d u = true → ∃ v, RelV v u ∧ RelD Γ H O d v
  | 0, _, _, h => by unfold ktB at h; cases h
  | n + 1, d, u, h => by
    have all : ∀ (ds : List D) (us : List Value), ktAll (ktB Γ.K n) ds us = true → ∃ vs, Vals vs us ∧ RelDs Γ H O ds vs := fun ds => by
      induction ds with
      | nil =>
        intro us h
        cases us with
        | nil => exact ⟨[], .nil, .nil⟩
        | cons u us => cases h
      | cons d ds ih =>
        intro us h
        cases us with
        | nil => cases h
        | cons u us =>
          obtain ⟨h1, h2⟩ := Bool.and_eq_true_iff.mp (show (ktB Γ.K n d u && ktAll (ktB Γ.K n) ds us) = true from h)
          obtain ⟨v, hv, r⟩ := kt_rel hO n d u h1
          obtain ⟨vs, hvs, rs⟩ := ih us h2
          exact ⟨v :: vs, .cons hv hvs, .cons r rs⟩
    cases d with
    | int i => cases u with
      | int j t =>
        have e : i = j := of_decide_eq_true h
        exact ⟨.int i, ⟨t, by rw [e]⟩, .int _⟩
      | _ => cases h
    | str x => cases u with
      | str y t =>
        have e : x = y := of_decide_eq_true h
        exact ⟨.str x, ⟨t, by rw [e]⟩, .str _⟩
      | _ => cases h
    | tup ds => cases u with
      | ref a =>
        have h1 : (match Γ.K.lookup a with
          | some ⟨c, none, .seq its _, _⟩ => isTupT c && (decide (its.size ≤ sizeLine) && ktAll (ktB Γ.K n) ds its.toList)
          | _ => false) = true := h
        cases q : Γ.K.lookup a with
        | none => rw [q] at h1; cases h1
        | some o =>
          obtain ⟨c, od, dt, sl⟩ := o
          rw [q] at h1
          cases od with
          | some _ => cases h1
          | none => cases dt with
            | seq its m =>
              obtain ⟨h2, h3⟩ := Bool.and_eq_true_iff.mp (show (isTupT c && (decide (its.size ≤ sizeLine) && ktAll (ktB Γ.K n) ds its.toList)) = true from h1)
              obtain ⟨h4, h5⟩ := Bool.and_eq_true_iff.mp h3
              obtain ⟨vs, hvs, rs⟩ := all _ _ h5
              have hc : c = .type "tuple" := by
                cases c with
                | type s => rw [of_decide_eq_true (show decide (s = "tuple") = true from h2)]
                | _ => cases h2
              exact ⟨.ref a, rfl, .tup (hO a _ q) (.inr ⟨_, its, m, q, hc, rfl, rfl, of_decide_eq_true h4, hvs⟩) rs⟩
            | _ => cases h1
      | _ => cases h
    | _ => cases u <;> cases h
section
variable {S : Sta} {C : Ctx} {E : XK} {X : Cx} {pos : Pos} {x : Str}
/-- a tuple of the module -/
def KtIs (K : PySem.W.Frag) (mg : Str → Option Value) (x : Str) (d : D) : Prop := ∃ u, mg x = some u ∧ ktB K 5 d u = true
theorem e_gtup {d : D} (hK : X.K = S.K) (h : KtIs X.K X.mg x d) (hg : Gl X x) (hd : (x == ("__debug__" : Str)) = false) : PE X (.Name x pos) (rdE S C E (dC d)) := by
  obtain ⟨u, h, hb⟩ := h
  refine ⟨fun pins s σ H Q I ⟨Γ, F, H0, ρ, δ, hS, R, o⟩ => ?_⟩
  have hG : Γ.K = X.K := by rw [hK, ← hS]
  rw [← hG] at hb
  obtain ⟨v, hv, r⟩ := kt_rel (Γ := Γ) (H := H) (O := Oall F ρ σ) (fun a ob q z => by
    obtain ⟨u, hu, _⟩ := R.otr a z
    rw [R.nw a u hu] at q
    cases q) 5 d u hb
  exact (pe_glob (v := v) (pos := pos) hg h hv hd).run pins s σ H Q I (o.pure H R.refl v r)
/-! ### the head's word, with them -/
def ktOk (tx : List (Str × D)) (K : PySem.W.Frag) : Bool := tx.all fun p => ktB K 5 p.2 (.ref (He.ga K p.1))
def hookT (n : Nat) (fa : List He.Fa) (fn : List He.DefD) (tx : List (Str × D)) : PySem.W.Hook where
  α := He.AlD × Bool
  obs := fun s => (He.obsDG n fa fn s.heap.get?, ktOk tx (He.frG s.heap.get? (He.asD s.heap.get? n)))
  val := fun _ => (He.valD fn, true)
  says := fun _ h => ∃ K : PySem.W.Frag, K.In h ∧ He.SaysD fa fn K ∧ ktOk tx K = true
  of := fun _ _ e => ⟨_, He.frG_in, congrArg Prod.fst e, congrArg Prod.snd e⟩
  keeps := fun _ _ _ ⟨K, hK, c⟩ k => ⟨K, PySem.W.Frag.In.keeps hK k, c⟩
def obsT (n : Nat) (fa : List He.Fa) (fn : List He.DefD) (tx : List (Str × D)) (g : Addr → Option Obj) : He.AlD × Bool := (He.obsDG n fa fn g, ktOk tx (He.frG g (He.asD g n)))
theorem obsT_eq {n : Nat} {fa : List He.Fa} {fn : List He.DefD} {tx : List (Str × D)} {g : Addr → Option Obj} {s : Shared} (h : ∀ a, g a = s.heap.get? a) : obsT n fa fn tx g = (hookT n fa fn tx).obs s := by
  have e : g = s.heap.get? := funext h
  rw [e] <;> rfl
theorem kt_ok {K : PySem.W.Frag} {mg : Str → Option Value} {tx : List (Str × D)} {x : Str} {d : D} (c : ktOk tx K = true) (i : Nat) (h : tx[i]? = some (x, d)) (hg : mg x = some (.ref (He.ga K x))) : KtIs K mg x d :=
  ⟨_, hg, List.all_eq_true.mp c (x, d) (List.mem_of_getElem? h)⟩
end
end SG

set_option Elab.async false
set_option linter.all false
set_option maxRecDepth 100000
set_option maxHeartbeats 4000000
namespace SG
open PySem PySem.Spec L2
open PyProof.Rows hiding St
/-! ### a caught exception that is kept -/
section
variable {X : Cx} {pins : List (Addr × Obj)} {σ : St} {H : Hp} {s : Shared} {a : Addr} {oe : Obj} {vs : Array Value} {cls : Value} {d : Option Addr}
theorem kept_track (I : Inv X pins σ H s) (ha : s.heap.get? a = some oe) (hz : Zc cls d oe) (hd : oe.data = .fields vs) (na : H a = none) (nL : a ≠ X.env.locals) (np : ∀ p ∈ X.pn ++ pins, p.1 ≠ a)
    (n0 : ∀ u, X.s_0.heap.get? a = some u → a ∉ X.ex → False) : Inv X pins σ (upd H a (ExcV cls d a)) s where
  ok := I.ok
  os := I.os
  bare := I.bare
  base := ⟨I.base.keep, I.base.slot, fun b u q n x => by
      rw [upd_ne fun z => n0 u (by rw [← z]; exact q) (by rw [← z]; exact x)]
      exact I.base.free b u q n x, I.base.there, fun b xs e => by
      have h := I.base.tups b xs e
      rw [upd_ne (ne_of_none h na)]; exact h, fun b o u e => by
      have h := I.base.frzs b o u e
      rw [upd_ne (ne_of_none h na)]; exact h, fun b ps e => by
      obtain ⟨more, h⟩ := I.base.tbls b ps e
      exact ⟨more, by rw [upd_ne (ne_of_none h na)]; exact h⟩⟩
  loc := I.loc
  cell := I.cell
  free := by rw [upd_ne (Ne.symm nL)]; exact I.free
  freeC := fun y c e => by
    obtain ⟨v, o, ho, hv⟩ := I.cell y c e
    have : c ≠ a := fun z => by
      rw [z, ha] at ho
      cases ho
      rw [hd] at hv
      cases hv
    rw [upd_ne this]
    exact I.freeC y c e
  pin := fun p hp => by
    obtain ⟨h1, h2, h3⟩ := I.pin p hp
    exact ⟨h1, by rw [upd_ne (np p hp)]; exact h2, h3⟩
  hok := HOk.laidN I.hok (fun _ _ h => h) na ⟨⟨oe, vs, ha, hz, hd⟩, ⟨oe, ha⟩, fun _ _ ⟨o, v, q, r⟩ k => ⟨o, v, k o q, r⟩⟩
  len := I.len
end
/-- what a kept catch wishes of an exception of the body -/
def wKept (K : PySem.W.Frag) (L : Nat) (c : Value) (i : Nat) (ts : Addr → Value → Option Addr → TS) (Wout : WX) (D : Ends) : WX := fun cls d σ H =>
  ∃ b, PySem.W.exmOne K cls c = some b ∧ (b = false → Wout cls d σ H) ∧
    (b = true → ∀ a, H a = none → K.lookup a = none → σ.length = L → ts a cls d { nx := fun σ' H' => D.nx (σ'.set i none) (upd H' a (ExcV cls d a)), rt := fun _ _ => False, bk := fun _ _ => False, ct := fun _ _ => False } (σ.set i (some (.ref a))) H)
section
variable {X : Cx} {x n : Str} {c : Value} {i : Nat} {body suite : List Stmt} {b₀ : Stmt} {npos pos pos' : Pos} {tb : WX → TS} {ts : Addr → Value → Option Addr → TS} {Wout : WX}
theorem ps_try_kept (hs : X.stack = X.env :: X.outer) (hf : X.env.frame = some X.env.locals) (hN : X.N.Nodup) (hi : X.N[i]? = some n) (hln : X.env.kindOf n = some .local) (hc : Names X x c) (tk : Takes X Wout)
    (hb : ∀ (W : WX) (pn : List (Addr × Obj)) (xe : Value → Shared → Prop), Takes (X.tr pn xe) W → PassesOwn (model X.prog X.w) X.A X.env xe → PSs (X.tr pn xe) body (tb W))
    (hsu : ∀ (a : Addr) (oe : Obj) (cls : Value) (d : Option Addr) (pn : List (Addr × Obj)), Zc cls d oe → (∃ vs, oe.data = .fields vs) → PSs (X.suite a ((a, oe) :: pn)) (b₀ :: suite) (ts a cls d)) :
    PS X (.Try body [.ExceptHandler (some (.Name x npos)) (some n) (b₀ :: suite) pos'] [] [] pos) (fun D σ H => tb (wKept X.K X.N.length c i ts Wout D) D σ H) := by
  constructor
  intro pins s σ H D I h
  have ok := I.ok
  have frA : X.A.frames = some (X.env :: X.outer) := ok.frames.trans (by rw [hs])
  refine wpAny_Try_except (wpAny_mono ((hb (wKept X.K X.N.length c i ts Wout D) (X.pn ++ pins) (fun e z => wpAny (model X.prog X.w) X.A (noteFrame e X.env) (fun _ z2 => wpAny (model X.prog X.w) X.A (setFlight e none)
    (fun _ z3 => wpAny (model X.prog X.w) X.A (handleBy e X.env [.ExceptHandler (some (.Name x npos)) (some n) (b₀ :: suite) pos']) (SP X pins D) X.xe z3) X.xe z2) X.xe z) ?caught PassesOwn.looking).run [] s σ H D (I.toTry _) h) ?done fun _ _ z => z)
  case done =>
    intro f s1 hsp
    cases f with
    | next => obtain ⟨σ', H', J, q⟩ := hsp; exact wpAny_execs_nil ⟨σ', H', J.ofTry ok, q⟩
    | brk => obtain ⟨σ', H', J, q⟩ := hsp; exact ⟨σ', H', J.ofTry ok, q⟩
    | cont => obtain ⟨σ', H', J, q⟩ := hsp; exact ⟨σ', H', J.ofTry ok, q⟩
    | ret u => obtain ⟨v, σ', H', J, r, q⟩ := hsp; exact ⟨v, σ', H', J.ofTry ok, r, q⟩
  case caught =>
    intro u s' ⟨a, B, sI, pins', σ', H', cls, d, hu, J', nb, up, sky, na, os, ag, b, hb1, hno, hyes⟩
    subst hu
    have J : Inv X pins σ' H' sI := J'.ofTry ok
    have sky2 : Sky B (X.env :: X.outer) a (Zc cls d) X.env.locals s'.heap := hs ▸ sky
    show wpAny _ X.A (noteFrame (.ref a) X.env) _ _ s'
    refine Sky.land Zc.steady frA hf sky2 fun hA flA upA => ?_
    have JA : Inv X pins σ' H' { s' with heap := hA } := J.landed nb flA.1 (up.trans upA) os ag
    have Bn : B.get? a = none := flA.2.1
    obtain ⟨oA, vA, heA, hzA, hdA⟩ := flA.there
    have noFr : a ∉ frs (X.env :: X.outer) := fun hm => by
      obtain ⟨_, o', e', hnf⟩ := flA.2.2.1.mem hm
      rw [heA] at e'
      cases e'
      exact hnf _ hdA
    have nL : a ≠ X.env.locals := fun z => noFr (List.mem_filterMap.mpr ⟨X.env, List.mem_cons_self, by rw [hf, z]⟩)
    have nF : a ∉ X.fs := fun hm => by
      obtain ⟨e, he, q⟩ := List.mem_filterMap.mp hm
      exact noFr (List.mem_filterMap.mpr ⟨e, List.mem_cons_of_mem _ he, q⟩)
    have noFr2 : a ∉ frs X.stack := by rw [hs]; exact noFr
    have np : ∀ p ∈ X.pn ++ pins, p.1 ≠ a := fun p hp z => by
      have := nb p.1 p.2 (J.pin p hp).1 (by rw [z]; exact noFr2)
      rw [z, Bn] at this
      cases this
    have n0 : ∀ u, X.s_0.heap.get? a = some u → a ∉ X.ex → False := fun u q hx => by
      obtain ⟨o', e'⟩ := J.base.there a u q hx
      have := nb a o' e' noFr2
      rw [Bn] at this
      cases this
    have nK : X.K.lookup a = none := by
      cases q : X.K.lookup a with
      | none => rfl
      | some o =>
        have hb0 := J.ok.mod.kin a o q
        exact (n0 o (J.ok.bs a o hb0).1 (J.ok.noex a o hb0)).elim
    have SA := JA.suite heA hdA na nL nF
    refine wpAny_handleBy_cons (codeAny_handlers_test ?_) (by intro q; cases q)
    have LT : PySem.W.Looks (model X.prog X.w) hA (typeOf (.ref a)) cls := fun A Q E z k q => wpAny_typeOf_ref (k _ _ heA) (by rw [hzA.1]; exact q)
    have LM := PySem.W.exm_one (M := model X.prog X.w) JA.kIn LT hb1
    have named : ∀ {Q E : Value → Shared → Prop}, Q c { s' with heap := hA } → wpAny (model X.prog X.w) (X.A.mark (some (.ref a))) (eval (.Name x npos) X.env) Q E { s' with heap := hA } := fun {Q E} q => by
      obtain ⟨hg, hdbg, hm | ⟨hm, hv, hnn⟩⟩ := hc
      · exact ld_glob (X := X.suite a ((a, oA) :: (X.pn ++ pins))) SA hg hm q hdbg
      · exact ld_blt (X := X.suite a ((a, oA) :: (X.pn ++ pins))) SA hg hm hv q hnn hdbg
    refine named (LM.here ?_)
    cases b with
    | true =>
      refine codeAny_handlers_suite_as (HandSPX.lands_againZ flA fun hB flB upB => ?_)
      have JB : Inv X pins σ' H' { s' with heap := hB } := J.landed nb flB.1 ((up.trans upA).trans upB) os ag
      obtain ⟨oB, vB, heB, hzB, hdB⟩ := flB.there
      refine store_ok (X := X.suite a ((a, oB) :: (X.pn ++ pins))) (v := .ref a) (JB.suite heB hdB na nL nF) hN hi (.inl hln) rfl (fun s5 S5 => ?_) (.inr hln)
      refine wpAny_mono ((hsu a oB cls d (X.pn ++ pins) hzB ⟨_, hdB⟩).run [] s5 _ H' _ S5 (hyes rfl a na nK J.len)) (fun f s6 hsp => ?_) (fun _ _ z => False.elim z)
      cases f with
      | next =>
        obtain ⟨σ6, H6, S6, q6⟩ := hsp
        have T6 : Inv (X.tr ((a, oB) :: (X.pn ++ pins)) X.xe) [] σ6 H6 s6 := ⟨ok.toTry _ _, S6.os, S6.bare, S6.base, S6.loc, S6.cell, S6.free, S6.freeC, S6.pin, S6.hok, S6.len⟩
        refine gone_ok (X := X.tr ((a, oB) :: (X.pn ++ pins)) X.xe) T6 hN hi hln fun s7 T7 => ?_
        obtain ⟨p1, p2, p3, _⟩ := T7.pin (a, oB) (List.mem_append_left _ List.mem_cons_self)
        have J7 : Inv X pins (σ6.set i none) H6 s7 := ⟨ok, T7.os, T7.bare, T7.base, T7.loc, T7.cell, T7.free, T7.freeC, fun p hp => T7.pin p (List.mem_append_left _ (List.mem_cons_of_mem _ hp)), T7.hok, T7.len⟩
        exact ⟨_, _, kept_track J7 p1 hzB hdB p2 nL np n0, q6⟩
      | brk => obtain ⟨_, _, _, q⟩ := hsp; exact q.elim
      | cont => obtain ⟨_, _, _, q⟩ := hsp; exact q.elim
      | ret u => obtain ⟨_, _, _, _, _, q⟩ := hsp; exact q.elim
    | false =>
      show wpAny _ X.A (handleBy (.ref a) X.env []) _ _ _
      refine wpAny_handleBy_nil ?_
      obtain ⟨k1, k2, k3, o2, v2, T, oT, t2, he2, hz2, hd2, h12, hr2⟩ := id flA
      unfold PySem.passOn
      refine wpAny_bind (wpAny_field he2 hd2 h12 ?_)
      rw [if_neg (show ¬ ((Value.ref T == Value.none) = true) from by simp)]
      have out : wpAny (model X.prog X.w) X.A (setFlight (.ref a) X.env.frame) (fun _ s4 => wpAny (model X.prog X.w) X.A (throw (.ref a) : Sem Flow) (SP X pins D) X.xe s4) X.xe { s' with heap := hA } := by
        rw [hf]
        refine HandSPX.setFlight_upZ flA fun hC hhC upC => wpAny_throw (tk _ _ ?_)
        exact ⟨a, B, sI, pins, σ', H', cls, d, rfl, J, nb, (up.trans upA).trans upC, .inr (.inr (hs ▸ hhC)), na, os, ag, hno rfl⟩
      first
        | exact wpAny_bind (wpAny_pure (wpAny_bind out))
        | exact wpAny_bind out
end
end SG

set_option Elab.async false
set_option linter.all false
set_option maxRecDepth 100000
set_option maxHeartbeats 4000000
namespace SG
open PySem PySem.Spec L2
open PyProof.Rows hiding St
/-! ### _law_caught(lambda: ..) -/
def TTc (K : PySem.W.Frag) (CS : Addr) : (XK → Hp → VK → Prop) → Hp → VK → Prop := fun tl H Q =>
  tl (fun cls d H' => PySem.W.exmOne K cls (.ref CS) = some true ∧ ∀ a, H' a = none → K.lookup a = none → Q (.ref a) (upd H' a (ExcV cls d a))) H (fun _ H' => ∃ v, (some (some V.non) : Option (Option V)) = some (some v) ∧ Q v H')
abbrev NC : List Str := ["work", "caught", "error"]
section
variable {X : Cx}
theorem caught_gives {x q : Str} {sg : Scope} {g CS : Addr} {cdg : Value} {j : Nat} {p1 p2 p3 p4 p5 p6 p7 p8 p9 p10 p11 p12 p13 p14 : Pos} (hk : sg.kind = .function)
    (hw : sg.names.lookup ("work" : Str) = some .local) (hcg : sg.names.lookup ("caught" : Str) = some .local) (he : sg.names.lookup ("error" : Str) = some .local) (hge : sg.names.lookup ("SquareError" : Str) = some .globalImplicit) (hme : X.mg ("SquareError" : Str) = some (.ref CS)) :
    LamX.GivesTo X NC x sg g cdg [.Assign [.Name "caught" p1] (.Constant .none j p2) p3,
      .Try [.Expr (.Call (.Name "work" p4) [] [] p5) p6] [.ExceptHandler (some (.Name "SquareError" p7)) (some "error") [.Assign [.Name "caught" p8] (.Name "error" p9) p10] p11] [] [] p12,
      .Return (some (.Name "caught" p13)) p14] "work" q (TTc X.K CS) := by
  intro f c' s H Q tl act hc h
  have hN : NC.Nodup := by decide +kernel
  refine ⟨_, pss_cons (ps_set (X := (cxOf C8.CX0 X.prog X.w X.K X.mg X.base NC x sg g cdg X.A X.stack s H C8.E0).nox) (i := 1) hN rfl (.inl hcg) pe_non)
    (pss_cons (ps_try_kept (X := (cxOf C8.CX0 X.prog X.w X.K X.mg X.base NC x sg g cdg X.A X.stack s H C8.E0).nox) (c := .ref CS) (i := 2) (Wout := fun _ _ _ _ => False)
      (tb := fun W D σ H => ∃ Ech : XK, (∀ cls d σ' H', Ech cls d H' → W cls d σ' H') ∧ σ[0]? = some (some (.ref f)) ∧ H c' = some (LamX.CodeO c' q) ∧ tl Ech H (fun _ H1 => D.nx σ H1))
      (ts := fun _ _ _ => tAsg (tVar 2) (gName 1))
      rfl rfl hN rfl he ⟨hge, by decide, .inl hme⟩ LamX.takes0 (fun W pn xe tk _ => ?_) (fun a oe cls d pn _ _ => pss_one (ps_set (i := 1) hN rfl (.inl hcg) (pe_var (i := 2) rfl (.inl he)))))
      (pss_one (ps_ret (pe_var (i := 1) rfl (.inl hcg))))), ?_⟩
  · refine ⟨fun pins s' σ H' D I h' => ?_⟩
    obtain ⟨Ech, hW, h1, h2, h3⟩ := h'
    have hp := act W pn xe Ech p4 p5 tk hW
    exact (pss_one (ps_expr (pos := p6) hp)).run pins s' σ H' D I ⟨h1, h2, h3⟩
  · refine ⟨fun cls d H' => PySem.W.exmOne X.K cls (.ref CS) = some true ∧ ∀ a, H' a = none → X.K.lookup a = none → Q (.ref a) (upd H' a (ExcV cls d a)), fun cls d σ' H' hE => ?_, rfl, hc, h⟩
    obtain ⟨e1, e2⟩ := hE
    refine ⟨true, e1, (fun z => nomatch z), fun _ a na nK hl => ?_⟩
    have hl : σ'.length = 3 := hl
    refine ⟨.ref a, by rw [List.getElem?_set]; simp [hl], ?_⟩
    show ∃ v, (((σ'.set 2 (some (V.ref a))).set 1 (some (V.ref a))).set 2 none)[1]? = some (some v) ∧ Q v (upd H' a (ExcV cls d a))
    exact ⟨.ref a, by simp [List.getElem?_set, hl], e2 a na nK⟩
theorem nw_inv {pins : List (Addr × Obj)} {σ : St} {H : Hp} {s : Shared} (I : Inv X pins σ H s) : NW X.K H := fun a o h => by
  cases q : X.K.lookup a with
  | none => rfl
  | some u =>
    have := (I.bs a u (I.ok.mod.kin a u q)).2
    rw [h] at this
    cases this
def dCaught (t : DE) : DE := fun C ρ δ => match t C ρ δ with
  | .ok _ δ' => .ok .non δ'
  | .exc c [] δ' => .ok (.exn c []) δ'
  | _ => .fail
theorem aft_extN {Γ : Gm} {δ : Dr} {H H1 : Hp} (d : DrawRel Γ δ H) (e : LamX.ExtN H H1) (t : LamX.Tabs Γ.tabs H1) (n : NW Γ.K H1) : Aft Γ δ H H1 := by
  obtain ⟨h1, h2, h3, h4⟩ := d
  exact ⟨fun a o h _ nt => e a o h nt, ⟨e _ _ h1 (fun _ z => nomatch z), e _ _ h2 (fun _ z => nomatch z), e _ _ h3 (fun _ z => nomatch z), h4⟩, n, t⟩
theorem caught_reads {S : Sta} {C : Ctx} {E : XK} {t : DE} {CS : Addr} (hK : X.K = S.K) (hx : ∀ c k, S.cls c = some k → PySem.W.exmOne X.K (.ref k) (.ref CS) = some true) {σ : St} {H : Hp} {Q : VK} (h : rdE S C E (dCaught t) σ H Q) :
    LamX.tLam S.tabs (TTc X.K CS) (fun E' σ H' Q' => NW X.K H' → rdE S C E' t σ H' Q') σ H Q := by
  obtain ⟨Γ, F, H0, ρ, δ, hS, R, o⟩ := h
  have hT : Γ.tabs = S.tabs := by rw [← hS]
  have hG : X.K = Γ.K := by rw [hK, ← hS]
  refine ⟨hT ▸ R.tab, fun H1 eN T1 nw1 => ?_⟩
  have A1 : Aft Γ δ H H1 := aft_extN R.dr eN (hT ▸ T1) (hG ▸ nw1)
  have R1 := R.aft A1
  refine ⟨Γ, F, H0, ρ, δ, hS, R1, ?_⟩
  cases q : t C ρ δ with
  | fail => unfold dCaught at o; rw [q] at o; exact o.elim
  | ok d δ' =>
    have o' : OutG Γ H E (fun d _ H' => ∀ v, RelD Γ H' (Oall F ρ σ) d v → Q v H') (.ok .non δ') := by unfold dCaught at o; rw [q] at o; exact o
    exact fun H' A' v _ => ⟨.non, rfl, o' H' (A1.trans A') .non .non⟩
  | exc c as δ' =>
    cases as with
    | cons _ _ => unfold dCaught at o; rw [q] at o; exact o.elim
    | nil =>
      have o' : OutG Γ H E (fun d _ H' => ∀ v, RelD Γ H' (Oall F ρ σ) d v → Q v H') (.ok (.exn c []) δ') := by unfold dCaught at o; rw [q] at o; exact o
      rintro cls dx H' A' ⟨k, hk, rfl, _, rfl⟩
      have hkS : S.cls c = some k := by rw [← hS]; exact hk
      refine ⟨hx c k hkS, fun a na nK => ?_⟩
      have A2 := A1.trans A'
      have R2 := R.aft A2
      have nO : ¬ Oall F ρ σ a := R2.fresh na
      have sm : Same H' (upd H' a (ExcV (.ref k) none a)) := fun b u e => by rw [upd_ne (ne_of_none e na)]; exact e
      have n2 : NW Γ.K (upd H' a (ExcV (.ref k) none a)) := fun b u e => by
        by_cases hb : b = a
        · rw [hb, ← hG]; exact nK
        · rw [upd_ne hb] at e; exact R2.nw b u e
      exact o' _ (A2.trans (aft_same sm R2.dr R2.tab n2)) (.ref a) (.exn nO hk upd_same)
theorem e_caught {S : Sta} {C : Ctx} {E : XK} {t : DE} {CS g c P : Addr} {k j : Nat} {pg params : Arguments} {bg : List Stmt} {sg scope : Scope} {fd : FuncData} {body : Expr} {p lpos pos p1 p2 p3 p4 p5 p6 p7 p8 p9 p10 p11 p12 p13 p14 : Pos}
    (hK : X.K = S.K) (hx : ∀ c k, S.cls c = some k → PySem.W.exmOne X.K (.ref k) (.ref CS) = some true) (F : FunD X.K "_law_caught" "_law_caught" pg bg sg [] [] g fd) (hg : Gl X "_law_caught") (hm : X.mg ("_law_caught" : Str) = some (.ref g)) (Sg : FnScope NC ["work"] sg)
    (hb : L2.Binds X.K fd ["work"] [])
    (hbg : bg = [.Assign [.Name "caught" p1] (.Constant .none j p2) p3,
      .Try [.Expr (.Call (.Name "work" p4) [] [] p5) p6] [.ExceptHandler (some (.Name "SquareError" p7)) (some "error") [.Assign [.Name "caught" p8] (.Name "error" p9) p10] p11] [] [] p12,
      .Return (some (.Name "caught" p13)) p14])
    (hk : sg.kind = .function) (hw : sg.names.lookup ("work" : Str) = some .local) (hcg : sg.names.lookup ("caught" : Str) = some .local) (he : sg.names.lookup ("error" : Str) = some .local) (hge : sg.names.lookup ("SquareError" : Str) = some .globalImplicit)
    (hme : X.mg ("SquareError" : Str) = some (.ref CS)) (TB : LamX.TabB X.base X.mg c P) (hcode : X.env.code = .ref c) (hmT : (P, X.env.qual ++ "<lambda>") ∈ S.tabs) (hu : ∀ q ∈ S.tabs, q.1 = P → q.2 = X.env.qual ++ "<lambda>") (hr : Room (k + 2) X.A)
    (L : LamX.LamS X.env.scope scope) (hdef : defaultsOf params X.env = ([], [])) (hbind : ∀ (q : Str) (cl : List (Str × Addr)) (pm cv ctv : Value), bindArgs (PySem.W.kla_fn "<lambda>" q params body scope cl pm cv ctv) ⟨[], []⟩ = pure [])
    (hbody : ∀ (A : Around) (outer : List Env) (s : Shared) (H : Hp) (E : XK) (f c' : Addr), Room k (A.deeper (LamX.lamEnv X scope s.heap.objs.size f c')) → PE (LamX.lamCx X A outer s H E scope f c') body (rdE S C E t)) :
    PE X (.Call (.Name "_law_caught" p) [.Lambda params body scope lpos] [] pos) (rdE S C E (dCaught t)) := by
  obtain ⟨oc, od, dV, kV, doc, pm, an, cdv, ct, osl, rfl, lk, hcd, _, _⟩ := F.ex
  subst hbg
  have hG := caught_gives (X := X) (x := "_law_caught") (q := X.env.qual ++ "<lambda>") (sg := sg) (g := g) (cdg := cdv) (j := j) (p1 := p1) (p2 := p2) (p3 := p3) (p4 := p4) (p5 := p5) (p6 := p6) (p7 := p7) (p8 := p8) (p9 := p9) (p10 := p10) (p11 := p11) (p12 := p12) (p13 := p13) (p14 := p14) hk hw hcg he hge hme
  refine (LamX.pe_lamcall (T := S.tabs) (a := "work") (t := fun E' σ H' Q' => NW X.K H' → rdE S C E' t σ H' Q') hg hm F.kp lk hcd hb Sg rfl (.inl hw) hG TB hcode hmT hu hr L hdef hbind (fun A outer s H E f c' hr => ⟨fun pins s' σ H' Q I h => ?_⟩)).mono fun σ H Q h => caught_reads hK hx h
  exact (hbody A outer s H E f c' hr).run pins s' σ H' Q I (h (nw_inv (X := LamX.lamCx X A outer s H E scope f c') I))
/-! ### raise -/
def dRaise (c : Nat) : DS := fun _ _ δ => .exc c [] δ
theorem s_raise {S : Sta} {C : Ctx} {E : XK} {c j : Nat} {x m : Str} {k : Addr} {p p2 pos pos' : Pos} (hc : X.calm = true) (tk : Takes X (fun cls d _ H => E cls d H)) (hS : S.cls c = some k)
    (q : PySem.W.excIn X.K k He.veBase "ValueError.__new__" = true) (kC : PySem.W.keepIn X.K (.ref k) = true) (h1 : PySem.W.subIn X.K (.ref k) (.type "BaseException") = some true) (h2 : PySem.W.typeIn X.K (.ref k) = some (.type "type"))
    (gC : X.mg x = some (.ref k)) (hg : Gl X x) (hdb : (x == ("__debug__" : Str)) = false) : PS X (.Raise (some (.Call (.Name x p) [.Constant (.str m) j p2] [] pos)) none pos') (rdS S C E (dRaise c)) := by
  refine (ps_raise (W := fun cls d _ H => E cls d H) hc tk (pmk_own PySem.F.excBase_ValueError q gC kC (raises_own h1 h2) hg hdb)).mono fun T σ H ⟨Γ, F, H0, ρ, δ, hS2, R, o⟩ => ?_
  have o' : ∀ cls dx H, Aft Γ δ H0 H → ExcOk Γ.toSta c [] cls dx → E cls dx H := o
  exact o' _ _ H ⟨R.ext, R.dr, R.nw, R.tab⟩ ⟨k, by rw [hS2]; exact hS, rfl, rfl, rfl⟩
/-! ### isinstance of a class of one's own -/
def sIsC (subs : List Nat) : D → Option D
  | .exn c [] => some (.bl (subs.contains c))
  | .non => some (.bl false)
  | _ => none
/-- what the classes say: which of them are the class at k -/
structure SubOk (K : PySem.W.Frag) (cls : Nat → Option Addr) (k : Addr) (subs : List Nat) : Prop where
  exc : ∀ c a, cls c = some a → ExcC K a ∧ PySem.W.kitOne K (.ref a) (.ref k) = some (subs.contains c)
  non : PySem.W.kitOne K (.type "NoneType") (.ref k) = some false
def rIsC (K : PySem.W.Frag) (cls : Nat → Option Addr) (k : Addr) (subs : List Nat) : List V → Hp → VK → Prop := fun xs H Q => ∃ (x : V) (Γ : Gm) (O : Addr → Prop) (d r : D), xs = [x, .ref k] ∧ Γ.K = K ∧ Γ.cls = cls ∧ RelD Γ H O d x ∧ sIsC subs d = some r ∧ ∀ v, RelD Γ H O r v → Q v H
theorem call_isCls {cls : Nat → Option Addr} {k : Addr} {subs : List Nat} (F : SubOk X.K cls k subs) : CallR X (.builtin "isinstance") (rIsC X.K cls k subs) := by
  intro pins s σ H xs us Q I r h
  obtain ⟨x, Γ, O, d, rr, rfl, hK, hcl, hd, hs, q⟩ := h
  cases hd with
  | non =>
    cases hs
    exact call_isi pins s σ H _ us Q I r ⟨.non, .ref k, _, _, false, rfl, .own k, .base .non, F.non, q _ (.bl false)⟩
  | @exn a kc c hO hc hH =>
    cases hs
    rw [hcl] at hc
    obtain ⟨C, hkit⟩ := F.exc c kc hc
    obtain ⟨u1, u2, rfl, r1, r2⟩ := vals2 r
    obtain rfl : u1 = Value.ref a := r1
    obtain rfl : u2 = Value.ref k := r2
    obtain ⟨⟨oe, vs, hget, hz, hv⟩, _⟩ := I.hok a _ hH
    have J : PySem.W.InstAt s.heap a oe kc none := by
      obtain ⟨oc, od, oda, osl⟩ := oe
      obtain ⟨h1, h2⟩ := hz
      dsimp only at h1 h2 hv
      subst h1 h2 hv
      exact ⟨hget, rfl, rfl, trivial⟩
    exact PySem.W.kia_one (PySem.W.handS_kitx_exc C.hg C.hk C.hs C.hd C.ha C.hn C.ht C.hm) I.kIn J hkit (fun z => nomatch z) fun tk => ⟨.bl _, H, I.kept (t' := tk) fun _ _ z => z, rfl, q _ (.bl _)⟩
  | _ => cases hs
theorem e_isCls {S : Sta} {C : Ctx} {E : XK} {t : DE} {call : Expr} {k : Addr} {subs : List Nat} (hK : X.K = S.K) (h : PE X call (tCB (rIsC X.K S.cls k subs) (tCons (rdE S C E t) (tCons (tC (.ref k)) tNil)))) : PE X call (rdE S C E (dFun1 (sIsC subs) t)) :=
  h.by' fun σ H Q ⟨Γ, F, H0, ρ, δ, hS, R, o⟩ => ⟨Γ, F, H0, ρ, δ, hS, R, o.bind.imp fun d1 δ1 H1 A1 o1 x q1 => by
    obtain ⟨r, e, q⟩ := o1.opt
    have R1 := R.aft A1
    exact ⟨x, Γ, _, d1, r, rfl, by rw [hK, ← hS], by rw [← hS], q1, e, fun v rv nw => q H1 R1.refl v rv⟩⟩
end
end SG

set_option Elab.async false
set_option linter.all false
set_option maxRecDepth 100000
set_option maxHeartbeats 4000000
namespace SG
open PySem PySem.Spec L2
open PyProof.Rows hiding St
/-! ### the head's word on the classes -/
def excCB (K : PySem.W.Frag) (D : Addr) : Bool :=
  He.eqO (PySem.W.findIn K (.ref D) "__getattribute__") (some (some (.builtin "BaseException.__getattribute__"))) && (He.eqO (PySem.W.findIn K (.ref D) "__getattr__") (some none) && (decide (PySem.W.subIn K (.ref D) (.type "BaseException") = some true) &&
    (PySem.W.hasDictIn K D && (He.eqO (PySem.W.findIn K (.ref D) "__class__") (some (some (.builtin "object.__class__"))) && (He.eqO (PySem.W.specialIn K (.builtin "object.__class__") "__get__") (some (some (.builtin "getset_descriptor.__get__"))) &&
      (decide (PySem.W.takesIn K (.builtin "object.__class__") = some true) && decide (PySem.W.mroIn K D (.type "object") = some true)))))))
theorem excCB_ok {K : PySem.W.Frag} {D : Addr} (h : excCB K D = true) : ExcC K D := by
  unfold excCB at h
  obtain ⟨h1, h⟩ := He.ba h
  obtain ⟨h2, h⟩ := He.ba h
  obtain ⟨h3, h⟩ := He.ba h
  obtain ⟨h4, h⟩ := He.ba h
  obtain ⟨h5, h⟩ := He.ba h
  obtain ⟨h6, h⟩ := He.ba h
  obtain ⟨h7, h8⟩ := He.ba h
  exact ⟨He.eqO_ok h1, He.eqO_ok h2, of_decide_eq_true h3, h4, He.eqO_ok h5, He.eqO_ok h6, of_decide_eq_true h7, of_decide_eq_true h8⟩
abbrev Cls : Type := List (Str × List Nat)
def clsAt (cl : Cls) (K : PySem.W.Frag) (n : Nat) : Option Addr := (cl[n]?).map fun p => He.ga K p.1
/-- one class: an exception that may be raised, under SquareError -/
def cls1 (K : PySem.W.Frag) (x : Str) : Bool := excCB K (He.ga K x) && ((He.Fa.exc x).ok K && (decide (PySem.W.exmOne K (.ref (He.ga K x)) (.ref (He.ga K "SquareError")) = some true) && decide (PySem.W.kitOne K (.type "NoneType") (.ref (He.ga K x)) = some false)))
def clsOk (cl : Cls) (K : PySem.W.Frag) : Bool := cl.all fun p => cls1 K p.1 && (List.range cl.length).all fun d => match cl[d]? with
  | some q => decide (PySem.W.kitOne K (.ref (He.ga K q.1)) (.ref (He.ga K p.1)) = some (p.2.contains d))
  | none => true
section
variable {cl : Cls} {K : PySem.W.Frag}
theorem clsOk_at (h : clsOk cl K = true) {i : Nat} {x : Str} {subs : List Nat} (hi : cl[i]? = some (x, subs)) : cls1 K x = true ∧ ∀ d y ss, cl[d]? = some (y, ss) → PySem.W.kitOne K (.ref (He.ga K y)) (.ref (He.ga K x)) = some (subs.contains d) := by
  obtain ⟨h1, h2⟩ := He.ba (List.all_eq_true.mp h (x, subs) (List.mem_of_getElem? hi))
  refine ⟨h1, fun d y ss hd => ?_⟩
  have := List.all_eq_true.mp h2 d (List.mem_range.mpr (List.getElem?_eq_some_iff.mp hd).1)
  rw [hd] at this
  exact of_decide_eq_true this
theorem clsAt_some {c : Nat} {k : Addr} (h : clsAt cl K c = some k) : ∃ y ss, cl[c]? = some (y, ss) ∧ k = He.ga K y := by
  unfold clsAt at h
  cases q : cl[c]? with
  | none => rw [q] at h; cases h
  | some p =>
    rw [q] at h
    cases h
    exact ⟨p.1, p.2, rfl, rfl⟩
theorem clsOk_sub (h : clsOk cl K = true) {i : Nat} {x : Str} {subs : List Nat} (hi : cl[i]? = some (x, subs)) : SubOk K (clsAt cl K) (He.ga K x) subs := by
  obtain ⟨h1, h2⟩ := clsOk_at h hi
  obtain ⟨_, h1⟩ := He.ba h1
  obtain ⟨_, h1⟩ := He.ba h1
  obtain ⟨_, h1⟩ := He.ba h1
  refine ⟨fun c a hc => ?_, of_decide_eq_true h1⟩
  obtain ⟨y, ss, hy, rfl⟩ := clsAt_some hc
  exact ⟨excCB_ok (He.ba (clsOk_at h hy).1).1, h2 c y ss hy⟩
theorem clsOk_exm (h : clsOk cl K = true) (c : Nat) (k : Addr) (hc : clsAt cl K c = some k) : PySem.W.exmOne K (.ref k) (.ref (He.ga K "SquareError")) = some true := by
  obtain ⟨y, ss, hy, rfl⟩ := clsAt_some hc
  exact of_decide_eq_true (He.ba (He.ba (He.ba (clsOk_at h hy).1).2).2).1
theorem clsOk_exc (h : clsOk cl K = true) {i : Nat} {x : Str} {subs : List Nat} (hi : cl[i]? = some (x, subs)) : (He.Fa.exc x).ok K = true := (He.ba (He.ba (clsOk_at h hi).1).2).1
/-- raise C('..') -/
theorem s_raiseC {S : Sta} {C : Ctx} {E : XK} {X : Cx} {c j : Nat} {x m : Str} {subs : List Nat} {p p2 pos pos' : Pos} (hc : X.calm = true) (tk : Takes X (fun cls d _ H => E cls d H)) (h : clsOk cl X.K = true) (hS : S.cls = clsAt cl X.K) (hi : cl[c]? = some (x, subs))
    (gC : X.mg x = some (.ref (He.ga X.K x))) (hg : Gl X x) (hdb : (x == ("__debug__" : Str)) = false) : PS X (.Raise (some (.Call (.Name x p) [.Constant (.str m) j p2] [] pos)) none pos') (rdS S C E (dRaise c)) := by
  obtain ⟨e1, e2, e3, e4⟩ := He.exc_ok (clsOk_exc h hi)
  exact s_raise hc tk (by rw [hS]; unfold clsAt; rw [hi]; rfl) e1 e2 e3 e4 gC hg hdb
end
section
variable {X : Cx} {A : Around} {outer : List Env} {s : Shared} {H : Hp} {E : XK} {scope : Scope} {f c' : Addr}
theorem takes_lam : Takes (LamX.lamCx X A outer s H E scope f c') (fun cls d _ H => E cls d H) := takes_of rfl rfl rfl rfl
theorem owns_lam : PassesOwn (model X.prog X.w) (LamX.lamCx X A outer s H E scope f c').A (LamX.lamCx X A outer s H E scope f c').env (LamX.lamCx X A outer s H E scope f c').xe :=
  passes_of (X := LamX.lamCx X A outer s H E scope f c') (K := fun e s'' => L2.CX X.prog X.w outer H s E e s'') (E₁ := fun e s'' => L2.CX X.prog X.w outer H s E e s'') rfl
end
end SG

set_option Elab.async false
set_option linter.all false
set_option maxRecDepth 100000
set_option maxHeartbeats 4000000
namespace SG
open PySem PySem.Spec L2
open PyProof.Rows hiding St
/-! ### calls by keywords alone -/
def permO {α : Type} (π : List Nat) (xs : List α) : List α := π.filterMap fun i => xs[i]?
theorem vals_perm {vs : List V} {us : List Value} (r : Vals vs us) : ∀ π : List Nat, Vals (permO π vs) (permO π us)
  | [] => .nil
  | i :: π => by
    unfold permO
    rw [List.filterMap_cons, List.filterMap_cons]
    have ih := vals_perm r π
    cases h : vs[i]? with
    | none =>
      have : us[i]? = none := by
        rw [List.getElem?_eq_none_iff] at h ⊢
        rw [← r.length]; exact h
      rw [this]
      exact ih
    | some v =>
      obtain ⟨u, hu, rv⟩ := r.get h
      rw [hu]
      exact .cons rv ih
theorem rels_perm {Γ : Gm} {H : Hp} {O : Addr → Prop} {ds : List D} {vs : List V} (r : RelDs Γ H O ds vs) : ∀ π : List Nat, RelDs Γ H O (permO π ds) (permO π vs)
  | [] => .nil
  | i :: π => by
    unfold permO
    rw [List.filterMap_cons, List.filterMap_cons]
    have ih := rels_perm r π
    cases h : ds[i]? with
    | none =>
      have : vs[i]? = none := by
        rw [List.getElem?_eq_none_iff] at h ⊢
        rw [← r.length]; exact h
      rw [this]
      exact ih
    | some d =>
      obtain ⟨v, hv, rv⟩ := r.get h
      rw [hv]
      exact .cons rv ih
theorem permO_all {α : Type} {xs : List α} : ∀ π : List Nat, (permO π xs).length = π.length → ∀ i ∈ π, i < xs.length
  | [], _, _, h => nomatch h
  | j :: π, hl, i, hi => by
    unfold permO at hl
    rw [List.filterMap_cons] at hl
    cases h : xs[j]? with
    | none =>
      rw [h] at hl
      have := List.length_filterMap_le (fun i => xs[i]?) π
      simp only [List.length_cons] at hl
      omega
    | some x =>
      rw [h] at hl
      simp only [List.length_cons] at hl
      rcases List.mem_cons.mp hi with rfl | hi
      · exact (List.getElem?_eq_some_iff.mp h).1
      · exact permO_all π (by unfold permO; omega) i hi
theorem permO_take {α : Type} {xs : List α} {n : Nat} {π : List Nat} (h : ∀ i ∈ π, i < n) : permO π (xs.take n) = permO π xs := by
  induction π with
  | nil => rfl
  | cons i π ih =>
    have ih := ih fun j hj => h j (List.mem_cons_of_mem _ hj)
    unfold permO at ih ⊢
    rw [List.filterMap_cons, List.filterMap_cons, List.getElem?_take, if_pos (h i List.mem_cons_self), ih]
theorem zip_take {α β : Type} : ∀ (ks : List α) (ws : List β), ks.zip (ws.take ks.length) = ks.zip ws
  | [], _ => rfl
  | k :: ks, [] => rfl
  | k :: ks, w :: ws => by
    show (k, w) :: ks.zip (ws.take ks.length) = (k, w) :: ks.zip ws
    rw [zip_take ks ws]
def dPerm (π : List Nat) (r : DA) : DA := fun C ρ => do
  let ds ← r C ρ
  M.pure (permO π ds)
/-- a def called by the keywords ks, which stand at π among its parameters -/
structure FnKw (P : Program) (w : World) (K : PySem.W.Frag) (mg : Str → Option Value) (base : Heap) (S : Sta) (k : Nat) (n : Nat) (x : Str) (ps ks : List Str) (π : List Nat) (f : List D → M D) : Prop where
  ex : ∃ (a : Addr) (fd : FuncData), S.fn n = some a ∧ mg x = some (.ref a) ∧ PySem.W.keepIn K (.ref a) = true ∧ (∀ (s : Shared) (ws : List Value), ws.length = ks.length → BindsTo s fd ⟨[], ks.zip ws⟩ (ps.zip (permO π ws))) ∧ FnOk P w K mg base (L2.CX P w) k a fd ps (spEv S f)
section
variable {S : Sta} {C : Ctx} {E : XK} {X : Cx} {e : Expr} {r : DA} {t : DE} {x : Str} {nm : Option Str} {p pos kpos : Pos} {ps ks : List Str} {π : List Nat} {k n : Nat} {kws : List Keyword}
theorem k_nil : PK X [] (rdA S C E dNil) := ⟨fun pos pins s σ H Q I h => by
  obtain ⟨Γ, F, H0, ρ, δ, hS, R, o⟩ := h
  exact pk_nil.run pos pins s σ H Q I (o.pure H R.refl _ .nil)⟩
theorem k_cons (ha : PE X e (rdE S C E t)) (hr : PK X kws (rdA S C E r)) : PK X (⟨nm, e, kpos⟩ :: kws) (rdA S C E (dCons t r)) := ⟨fun pos pins s σ H Q I h => by
  obtain ⟨Γ, F, H0, ρ, δ, hS, R, o⟩ := h
  exact (pk_cons (nm := nm) (kpos := kpos) ha hr).run pos pins s σ H Q I ⟨Γ, F, H0, ρ, δ, hS, R, o.bind.imp fun d δ1 H1 A1 o1 v r1 =>
    ⟨Γ, F, H0, ρ, δ1, hS, R.aft A1, o1.bind.imp fun ds δ2 H2 A2 o2 vs r2 => o2.pure H2 ((R.aft A1).aft A2).refl _ (.cons (r1.ext (A2.ext.mono R.dO)) r2)⟩⟩⟩
theorem e_callKw (hK : X.K = S.K) (F : FnKw X.prog X.w X.K X.mg X.base S k n x ps ks π (C.call n)) (hr : Room k X.A) (hg : Gl X x) (tk : Takes X (fun cls d _ H => E cls d H)) (hkw : PK X kws (rdA S C E r)) (hl : π.length = ps.length) (hlt : π.all (fun i => decide (i < ks.length)) = true) (hn : ks.length = 0 ∨ π.contains (ks.length - 1) = true)
    (hall : (backToKw pos (keywordEach kws X.env)).all (·.1.isSome) = true) (hks : (backToKw pos (keywordEach kws X.env)).filterMap (·.1) = ks) (hdb : (x == ("__debug__" : Str)) = false) (hpl : ((backTo pos (starEach [] X.env)).any (·.1) || (backToKw pos (keywordEach kws X.env)).any (·.1.isNone)) = false) :
    PE X (.Call (.Name x p) [] kws pos) (rdE S C E (dCall n (dPerm π r))) := by
  obtain ⟨a, fd, h1, h2, h3, h4, h5⟩ := F.ex
  refine ⟨fun pins s σ H Q I h => ?_⟩
  obtain ⟨Γ, F, H0, ρ, δ, hS, R, o⟩ := h
  refine wpAny_Call_Name_kw (ld_glob I hg h2 ?_ hdb)
  refine PySem.W.callWith_KW0 (h₀ := X.base) I.ok.mod.kin h3 hall ?_ hpl
  have o2 : OutG Γ H E (fun ds δ1 H1 => Aft Γ δ1 H H1 ∧ OutG Γ H1 E (fun d _ H' => ∀ v, RelD Γ H' (Oall F ρ σ) d v → Q v H') (C.call n (permO π ds) δ1)) (r C ρ δ) := by
    have o1 : OutG Γ H E (fun d _ H' => ∀ v, RelD Γ H' (Oall F ρ σ) d v → Q v H') ((r C ρ >>= fun ds => C.call n (permO π ds)) δ) := by
      have e : (dCall n (dPerm π r)) C ρ δ = (r C ρ >>= fun ds => C.call n (permO π ds)) δ := by
        unfold dCall dPerm
        rw [bind_eq, bind_eq, bind_eq]
        cases r C ρ δ <;> rfl
      rw [← e]
      exact o
    exact o1.bindA
  refine thn (hkw.run pos pins s σ H (fun zs H2 => spEv S (fun ds => C.call n (permO π ds)) zs H2 Q E) I ⟨Γ, F, H0, ρ, δ, hS, R, o2.imp fun ds δ1 H1 A1 o1 vs q => ?_⟩) fun ws s2 ⟨zs, H2, I2, rz, q2⟩ => ⟨I2.kIn, ?_⟩
  · have R1 := R.aft A1
    exact ⟨Γ, Oall F ρ σ, ds, δ1, hS, R1.otr, R1.dO, R1.dr, R1.nw, R1.tab, q, o1.2⟩
  · rw [hks]
    have q3 : spEv S (C.call n) (permO π zs) H2 Q E := by
      obtain ⟨Γ, F, ds, δ, a1, a2, a3, a4, a5, a6, a7, a8⟩ := q2
      exact ⟨Γ, F, permO π ds, δ, a1, a2, a3, a4, a5, a6, rels_perm a7 π, a8⟩
    have r2 := vals_perm rz π
    have hz := h5.len _ _ _ _ q3
    have lt : ∀ i ∈ π, i < ks.length := fun i hi => of_decide_eq_true (List.all_eq_true.mp hlt i hi)
    have hw : ks.length ≤ ws.length := by
      rcases hn with hn | hn
      · omega
      · have := permO_all (xs := zs) π (by omega) (ks.length - 1) (by simpa using hn)
        rw [rz.length] at this
        omega
    have hb := h4 s2 (ws.take ks.length) (by rw [List.length_take]; omega)
    rw [zip_take, permO_take lt] at hb
    refine wpAny_call (codeAny_mono (h5.run X.A X.stack s2 H2 ⟨[], ks.zip ws⟩ (permO π ws) (permO π zs) Q E hr I2.env0 hb r2 q3) fun r s' hq => ?_)
    cases r with
    | error e => exact passes_call tk (fun _ _ _ _ z => z) pins σ H2 s2 e s' I2 hq
    | ok fl =>
      cases fl with
      | ret u => exact I2.after hq
      | next => exact False.elim hq
      | brk => exact False.elim hq
      | cont => exact False.elim hq
theorem kw_binds {K : PySem.W.Frag} {qual : Str} {params : Arguments} {body : List Stmt} {scope : Scope} {f : Addr} {fd : FuncData} (F : FunD K x qual params body scope [] [] f fd)
    (h : ∀ (kV doc pm : Value) (an : Option Addr) (cdv ct : Value) (ws : List Value), ws.length = ks.length → bindArgs (PySem.W.fnOf x qual params body scope .none kV doc pm an cdv ct) ⟨[], ks.zip ws⟩ = pure (ps.zip (permO π ws))) (s : Shared) (ws : List Value) (hl : ws.length = ks.length) : BindsTo s fd ⟨[], ks.zip ws⟩ (ps.zip (permO π ws)) := by
  obtain ⟨oc, od, dV, kV, doc, pm, an, cdv, ct, osl, rfl, lk, hcd, hD, hK⟩ := F.ex
  rcases hD with ⟨_, rfl⟩ | ⟨e, _⟩
  · exact .of_eq (h kV doc pm an cdv ct ws hl)
  · exact absurd rfl e
theorem sub_of {cl : Cls} {y : Str} {subs : List Nat} {i : Nat} {K : PySem.W.Frag} (h : clsOk cl K = true) (hS : S.cls = clsAt cl K) (hi : cl[i]? = some (y, subs)) : SubOk K S.cls (He.ga K y) subs := hS ▸ clsOk_sub h hi
theorem exm_of {cl : Cls} {K : PySem.W.Frag} (h : clsOk cl K = true) (hS : S.cls = clsAt cl K) (c : Nat) (k : Addr) (hc : S.cls c = some k) : PySem.W.exmOne K (.ref k) (.ref (He.ga K "SquareError")) = some true := clsOk_exm h c k (hS ▸ hc)
theorem bs_fail {sts : List Stmt} : PSs X sts (rdS S C E dFail) := pss_never.mono fun T σ H ⟨Γ, F, H0, ρ, δ, hS, R, o⟩ => o
end
/-- the body of a lambda -/
theorem lamB {S : Sta} {C : Ctx} {E : XK} {X : Cx} {A : Around} {outer : List Env} {s : Shared} {H : Hp} {scope : Scope} {f c' : Addr} {k : Nat} {body : Expr} {t : DE} (hr : Room k (A.deeper (LamX.lamEnv X scope s.heap.objs.size f c')))
    (h : (A.deeper (LamX.lamEnv X scope s.heap.objs.size f c')).units + 120 < cLine → Takes (LamX.lamCx X A outer s H E scope f c') (fun cls d _ H => E cls d H) → PE (LamX.lamCx X A outer s H E scope f c') body (rdE S C E t)) :
    PE (LamX.lamCx X A outer s H E scope f c') body (rdE S C E t) := h (hu_of hr) takes_lam
/-! ### a list added to a list, as an own one -/
def catSem : D → D → Option D
  | .lst a, .lst b => if a.length + b.length ≤ LINE then some (.lst (a ++ b)) else none
  | _, _ => none
def dCat (a b : DE) : DE := dFun2 catSem a b
section
variable {S : Sta} {C : Ctx} {E : XK} {X : Cx} {a b : Expr} {ta tb : DE} {pos : Pos}
def r2F (K : PySem.W.Frag) : V → V → Hp → VK → Prop := fun x y H Q => ∃ (Γ : Gm) (O : Addr → Prop) (d e r : D), Γ.K = K ∧ OK' Γ H O ∧ RelP Γ H O d x ∧ RelP Γ H O e y ∧ catSem d e = some r ∧ ∀ p H', H p = none → Same H H' → OwnN Γ H H' O r p → Q (.ref p) H'
theorem v_cat : OpR X (binaryOp .Add) (r2F X.K) := by
  intro pins s σ H x y v u Q I rx ry ⟨Γ, O, d, e, r, hK, ok, px, py, hs, q⟩
  cases d <;> cases e <;> simp only [catSem, reduceCtorEq] at hs
  case lst.lst a b =>
    split at hs
    · rename_i hl
      cases hs
      obtain ⟨p, vs, ex, _, hp, rp⟩ := px.lst ok.d
      obtain ⟨p2, vs2, ey, _, hp2, rp2⟩ := py.lst ok.d
      refine op_cat pins s σ H x y v u Q I rx ry ⟨p, p2, vs, vs2, ex, ey, hp, hp2, ?_, fun z nz => ?_⟩
      · rw [← rp.length, ← rp2.length, ← LINE_eq]; exact hl
      · exact q z _ nz (same_new nz) ⟨_, upd_same, rp.append rp2⟩
    · cases hs
theorem f_cat (hK : X.K = S.K) (ha : PE X a (rdP S C E ta)) (hb : PE X b (rdP S C E tb)) : PE X (.BinOp a .Add b pos) (rdF S C E (dCat ta tb)) :=
  (pe_op v_cat ha hb).by' fun σ H Q ⟨Γ, F, H0, ρ, δ, hS, R, o⟩ => ⟨Γ, F, H0, ρ, δ, hS, R, o.bind.imp fun d1 δ1 H1 A1 o1 x r1 => ⟨Γ, F, H0, ρ, δ1, hS, R.aft A1, o1.bind.imp fun d2 δ2 H2 A2 o2 y r2 => by
    obtain ⟨r, e, q⟩ := o2.opt
    have R2 := (R.aft A1).aft A2
    exact ⟨Γ, _, d1, d2, r, by rw [hK, ← hS], R2.ok', r1.mvA A2 R.dO, r2, e, fun p H' hn sm rv nw => q H' (aft_same sm R2.dr R2.tab (by rw [hK, ← hS] at nw; exact nw)) p (fr_back (A1.trans A2).ext (A1.trans A2).dr (fr_none hn)) (rv.own hn sm (by rw [hK, ← hS] at nw; exact nw))⟩⟩⟩
end
end SG

set_option Elab.async false
set_option linter.all false
set_option maxRecDepth 100000
set_option maxHeartbeats 4000000
namespace SG
open PySem PySem.Spec L2
open PyProof.Rows hiding St
/-! ### *e in a display or in arguments -/
def itS : D → Option (List D)
  | .tup xs => some xs
  | .lst xs => some xs
  | _ => none
def dStar (a : DE) (r : DA) : DA := fun C ρ => do
  let x ← a C ρ
  let xs ← M.opt (itS x)
  let ys ← r C ρ
  M.pure (xs ++ ys)
section
variable {S : Sta} {C : Ctx} {E : XK} {X : Cx} {e : Expr} {es : List Expr} {t : DE} {r : DA} {p : Pos}
theorem a_star (hK : X.K = S.K) (ha : PE X e (rdP S C E t)) (hr : PA X es (rdA S C E r)) (hs : starEach (.Starred e p :: es) X.env = (true, eval e X.env) :: starEach es X.env) : PA X (.Starred e p :: es) (rdA S C E (dStar t r)) :=
  (StX.pa_star ha hr hs).mono fun σ H Q ⟨Γ, F, H0, ρ, δ, hS, R, o⟩ => ⟨Γ, F, H0, ρ, δ, hS, R, o.bind.imp fun d δ1 H1 A1 o1 v r1 => by
    obtain ⟨xs, e1, q⟩ := o1.bind.opt
    have R1 := R.aft A1
    have q := q H1 R1.refl
    have hG : Γ.K = X.K := by rw [hK, ← hS]
    cases d <;> simp only [itS, reduceCtorEq, Option.some.injEq] at e1
    case tup ds =>
      subst e1
      obtain ⟨a, vs, rfl, n, hp, rp⟩ := r1.tup
      rw [hG] at hp
      exact ⟨a, vs, rfl, .inl hp.t, Γ, F, H0, ρ, δ1, hS, R1, q.bind.imp fun ds2 δ2 H2 A2 o2 vs2 r2 => o2.pure H2 (R1.aft A2).refl _ ((rp.ext (A2.ext.mono R.dO)).append r2)⟩
    case lst ds =>
      subst e1
      obtain ⟨a, vs, rfl, n, hp, rp⟩ := r1.lst R1.ok'.d
      exact ⟨a, vs, rfl, .inr (SqL.of hp), Γ, F, H0, ρ, δ1, hS, R1, q.bind.imp fun ds2 δ2 H2 A2 o2 vs2 r2 => o2.pure H2 (R1.aft A2).refl _ ((rp.ext (A2.ext.mono R.dO)).append r2)⟩⟩
end
end SG

set_option Elab.async false
set_option linter.all false
set_option maxRecDepth 100000
set_option maxHeartbeats 4000000
namespace SG
open PySem PySem.Spec L2
open PyProof.Rows hiding St
/-! ### a def with lambdas in it: its code is known -/
section
variable {P : Program} {w : World} {K : PySem.W.Frag} {mg : Str → Option Value} {base : Heap} {x qual : Str} {params : Arguments} {body : List Stmt} {scope : Scope} {f : Addr} {fd : FuncData} {N ps : List Str} {S : Sta} {C : Ctx} {c : DS} {k : Nat}
theorem fn_stepC {p : He.Defn} (F : FunD K x qual params body scope [] [] f fd) (hf : f = He.fAd K p) (Sc : FnScope N ps scope)
    (hb : ∀ (cdv : Value) (A : Around) (outer : List Env) (s : Shared) (H : Hp) (E : XK), cdv = .ref (He.codeOf K p) → Room k (A.deeper (envOfC qual scope s.heap.objs.size f cdv)) → PSs (cxOf (L2.CX P w) P w K mg base N qual scope f cdv A outer s H E) body (rdS S C E c)) :
    FnOk P w K mg base (L2.CX P w) (k + 1) f fd ps (spEv S (runF N.length ps.length c C)) := by
  obtain ⟨oc, od, dV, kV, doc, pm, an, cdv, ct, osl, rfl, lk, hcd, _, _⟩ := F.ex
  obtain ⟨cc, hcc⟩ := He.codeIn_ref hcd
  have hcode : cdv = .ref (He.codeOf K p) := by
    rw [He.codeOf_eq (p := p) (c := cc) (by rw [← hf]; exact lk) hcc]
    exact hcc
  refine fn_of lk hcd Sc (fun vs H Q E h => ?_) fun A outer s H vs Q E hr h => ⟨_, hb cdv A outer s H E hcode hr, ?_⟩
  · obtain ⟨Γ, F, ds, δ, _, _, _, _, _, _, r, o⟩ := h
    unfold runF at o
    split at o
    · rename_i hl; rw [← r.length]; exact hl.1
    · exact o.elim
  · obtain ⟨Γ, F, ds, δ, hS, hF, hD, hd, nw, t, r, o⟩ := h
    refine ⟨Γ, F, H, _, δ, hS, rel_start hF hD hd nw t r, ?_⟩
    unfold runF at o
    split at o
    · cases hq : c C (ds.map Sl.val ++ List.replicate (N.length - ds.length) .no) δ with
      | fail => rw [hq] at o; exact o
      | exc c as δ' => rw [hq] at o; exact o
      | ok fl δ' =>
        rw [hq] at o
        cases fl with
        | nx ρ => exact fun σ' H' R' => o H' ⟨R'.ext, R'.dr, R'.nw, R'.tab⟩ .non .non
        | rt d => exact fun v H' A r => o H' A v r
        | bk ρ => exact o.elim
        | ct ρ => exact o.elim
    · exact o.elim
end
end SG

set_option Elab.async false
set_option linter.all false
set_option maxRecDepth 100000
set_option maxHeartbeats 4000000
namespace SG
open PySem PySem.Spec L2 HT
open PyProof.Rows hiding St
/-! ### t[::-1] of a tuple -/
def rvSem : D → Option D
  | .tup ds => some (.tup ds.reverse)
  | .lst ds => some (.lst ds.reverse)
  | _ => none
def dRev (t : DE) : DE := dFun1 rvSem t
section
variable {prog : Program} {w : World} {A : Around} {E : Value → Shared → Prop} {s : Shared}
theorem rev_applied {sl : Addr} {vl vu vs : Value} {n : Nat} {Q : Int × Int × Nat → Shared → Prop} (hs : s.heap.IsSliceOf sl vl vu vs) (pl : IsPart vl none) (pu : IsPart vu none) (ps : IsPart vs (some (-1)))
    (h : Q ((n : Int) - 1, -1, n) s) : wpAny (model prog w) A (Builtin.Slice.sliceApplied (.ref sl) (pure (n : Int))) Q E s := by
  obtain ⟨os, hos, hcs, hds⟩ := id hs
  unfold Builtin.Slice.sliceApplied Builtin.Slice.sliceFields
  refine wpAny_bind (wpAny_bind (wpAny_field hos hds (x := vl) rfl (wpAny_bind (wpAny_field hos hds (x := vu) rfl (wpAny_bind (wpAny_field hos hds (x := vs) rfl (wpAny_pure ?_)))))))
  refine wpAny_bind (slicePart_ ps ?_)
  show wpAny _ _ (if ((-1 : Int) == 0) = true then _ else _) _ _ s
  rw [if_neg (by decide)]
  refine wpAny_bind (slicePart_ pl (wpAny_bind (slicePart_ pu (wpAny_bind (wpAny_pure ?_)))))
  show wpAny _ _ (match Builtin.Slice.sliceAdjust none none (-1) (n : Int) with | (lo, hi) => pure (lo, (-1 : Int), Builtin.Slice.slicePlaces lo hi (-1))) _ _ s
  have e1 : Builtin.Slice.sliceAdjust none none (-1) (n : Int) = ((n : Int) - 1, -1) := by
    unfold Builtin.Slice.sliceAdjust
    have h1 : (-1 : Int) < 0 := by decide
    simp only [h1, if_true]
  have e2 : Builtin.Slice.slicePlaces ((n : Int) - 1) (-1) (-1) = n := by
    unfold Builtin.Slice.slicePlaces
    have h1 : ¬ ((-1 : Int) > 0) := by decide
    simp only [h1, if_false]
    split <;> simp <;> omega
  rw [e1]
  show wpAny _ _ (pure ((n : Int) - 1, (-1 : Int), Builtin.Slice.slicePlaces ((n : Int) - 1) (-1) (-1))) _ _ s
  rw [e2]
  exact wpAny_pure h
theorem pick_rev (xs : Array Value) : ((List.range xs.size).filterMap fun (m : Nat) => xs[(((xs.size : Int) - 1) + (m : Int) * (-1)).toNat]?).toArray = xs.toList.reverse.toArray := by
  have e : (fun (m : Nat) => xs[(((xs.size : Int) - 1) + (m : Int) * (-1)).toNat]?) = (fun k => xs[k]?) ∘ fun m => xs.size - 1 - m := by
    funext m
    have : (((xs.size : Int) - 1) + (m : Int) * (-1)).toNat = xs.size - 1 - m := by omega
    show xs[(((xs.size : Int) - 1) + (m : Int) * (-1)).toNat]? = xs[xs.size - 1 - m]?
    rw [this]
  rw [e, ← List.filterMap_map]
  have := PySem.W.krv_pick xs
  unfold slicePick at this
  rw [PySem.W.krv_bounds] at this
  rw [← this]
  show _ = ((sliceRange ((xs.size : Int) - 1) (-1) (-1)).filterMap (xs[·]?)).toArray
  rw [PySem.W.krv_sliceRange]
theorem getItem_tuple_rev {t sl : Addr} {items : Array Value} {vl vu vs : Value} {Q : Value → Shared → Prop} (ht : IsTup s.heap t items) (hs : s.heap.IsSliceOf sl vl vu vs) (pl : IsPart vl none) (pu : IsPart vu none) (ps : IsPart vs (some (-1)))
    (h : Q (.ref s.heap.objs.size) { s with heap := s.heap.push { cls := .type "tuple", data := .seq items.toList.reverse.toArray } })
    (hsz : items.size ≤ sizeLine) : wpAny (model prog w) A (getItem (.ref t) (.ref sl)) Q E s := by
  have htake : sizeOk (.seq items.toList.reverse.toArray) := by
    show items.toList.reverse.toArray.size ≤ sizeLine
    rw [List.size_toArray, List.length_reverse, Array.length_toList]
    exact hsz
  obtain ⟨os, hos, hcs, hds⟩ := id hs
  have hTs : s.TypeIs (.ref sl) "slice" := ⟨os, hos, hcs⟩
  unfold getItem
  try with_reducible refine wpAny_holding ?_
  first | refine wpAny_bind (wpAny_pure ?_) | skip
  refine wpAny_bind (wpAny_sequenceKey ht.typeIs (by decide) ?_)
  refine wpAny_bind (wpAny_callSpecial?_slot (name := Str.ofString "__getitem__") ht.typeIs PyProof.Rows.slot_tuple_getitem
    (wpAny_call_entry PyProof.Rows.slot_tuple_getitem ht.typeIs entry_tuple_getitem ?_ (args_tuple_getitem _ _)))
  show wpAny _ _ (Builtin.Tuple.tupleItemsOf (.ref t) >>= _) _ _ s
  refine wpAny_bind (tupleItemsOf_ ht ?_)
  refine wpAny_bind (wpAny_typeOf hTs ?_)
  rw [if_pos (by decide)]
  refine wpAny_bind (rev_applied hs pl pu ps ?_)
  have hno : ¬ ((((items.size : Int) - 1) == 0 && (-1 : Int) == 1 && items.size == items.size) = true) := by
    rw [show ((-1 : Int) == 1) = false from rfl, Bool.and_false, Bool.false_and]
    exact Bool.false_ne_true
  show wpAny _ _ (if (((items.size : Int) - 1) == 0 && (-1 : Int) == 1 && items.size == items.size) = true then _ else _) _ _ s
  rw [if_neg hno, pick_rev]
  first
    | exact wpAny_bind (m := Builtin.Tuple.tupleExact _) (wpAny_newObj_type (wpAny_pure ⟨_, rfl, wpAny_pure h⟩) htake)
    | exact wpAny_bind (m := Builtin.Tuple.tupleExact _) (wpAny_newObj_type (wpAny_bind (wpAny_pure (wpAny_pure ⟨_, rfl, wpAny_pure h⟩))) htake)
    | exact wpAny_bind (wpAny_bind (m := Builtin.Tuple.tupleExact _) (wpAny_newObj_type (wpAny_pure (wpAny_pure ⟨_, rfl, wpAny_pure h⟩)) htake))
    | exact wpAny_bind (wpAny_bind (m := Builtin.Tuple.tupleExact _) (wpAny_newObj_type (wpAny_pure ⟨_, rfl, wpAny_pure h⟩) htake))
end
/-- what t[::-1] gives -/
def rRv (K : PySem.W.Frag) : V → Hp → VK → Prop := fun x H Q => ∃ (Γ : Gm) (O : Addr → Prop) (d r : D), Γ.K = K ∧ OK' Γ H O ∧ RelP Γ H O d x ∧ rvSem d = some r ∧ ∀ v H', Same H H' → RelD Γ H' O r v → Q v H'
def tRv (r : V → Hp → VK → Prop) (te : TE) : TE := fun σ H Q => te σ H fun x H1 => r x H1 Q
section
variable {X : Cx}
theorem rv_D {pins : List (Addr × Obj)} {s : Shared} {σ : St} {H : Hp} {x : V} {v vl vu vs : Value} {sl : Addr} {Q : VK} (I : Inv X pins σ H s) (rx : RelV x v) (hs : s.heap.IsSliceOf sl vl vu vs) (pl : IsPart vl none) (pu : IsPart vu none) (ps : IsPart vs (some (-1))) (h : rRv X.K x H Q) :
    ∃ T id, typeLookup (.type T) "__getitem__" = pure (some (.builtin id)) ∧ s.TypeIs v T ∧ wpAny (model X.prog X.w) X.A (getItem v (.ref sl)) (EP X pins σ Q) X.xe s := by
  obtain ⟨Γ, O, d, r, hK, ok, px, hr, q⟩ := h
  cases d <;> simp only [rvSem, reduceCtorEq] at hr
  case tup ds =>
    cases hr
    obtain ⟨a, xs, ex, n, hp, rp⟩ := px.tup
    subst ex
    cases rx
    have hx := hp.t
    rw [hK] at hx
    obtain ⟨its, r, ht, hz⟩ := I.tuple hx
    have hlen : its.toArray.size = xs.length := by rw [List.size_toArray]; exact r.length.symm
    refine ⟨"tuple", _, PyProof.Rows.slot_tuple_getitem.lookup, ht.typeIs, ?_⟩
    refine getItem_tuple_rev ht hs pl pu ps ?_ (by rw [hlen]; exact hz)
    exact Inv.laidT I (by rw [List.length_reverse]; exact hz) r.reverse fun p od hn hd => q _ _ (same_new hn) (.tup (ok.fresh hn) (SqN.of upd_same hd) (rp.reverse.ext (same_ext (same_new hn) _)))
  case lst ds =>
    cases hr
    obtain ⟨a, xs, ex, n, hp, rp⟩ := px.lst ok.d
    subst ex
    cases rx
    obtain ⟨its, r, ht, hz⟩ := I.list (SqL.of (K := X.K) hp)
    have hlen := r.length
    refine ⟨"list", _, PySem.slot_list_getitem.lookup, ht.isList.typeIs, ?_⟩
    refine wpAny_getItem_list_slice ht.isList hs pl pu ps (by decide) ?_ (by rw [List.size_toArray]; omega)
    rw [PySem.W.krv_pick]
    have hn : H s.heap.objs.size = none := I.hok.fresh (Nat.le_refl _)
    refine ⟨.ref _, _, I.laid (t' := s.toks) (o := .lst xs.reverse) (fun b ob q => Heap.get?_push_of_some _ q) (Nat.le_refl _) ?_, rfl, q _ _ (same_new hn) (.lst (ok.fresh hn) upd_same (rp.reverse.ext (same_ext (same_new hn) _)))⟩
    exact ⟨by rw [List.length_reverse]; exact hz, _, 0, r.reverse, Heap.get?_push_size _ rfl⟩
theorem pe_rv {e : Expr} {te : TE} {k : Nat} {p1 p2 p3 pos : Pos} (he : PE X e te) : PE X (.Subscript e (.Slice none none (some (.UnaryOp .USub (.Constant (.int 1) k p1) p2)) p3) pos) (tRv (rRv X.K) te) := by
  refine ⟨fun pins s σ H Q I h => ?_⟩
  refine Subscript_ (thn (he.run pins s σ H _ I h) fun v s1 ⟨x, H1, I1, r1, q1⟩ => ?_)
  have hst : PO X (some (.UnaryOp .USub (.Constant (.int 1) k p1) p2)) (tPart (tUn (rU fun i => .int (-i)) (tC (.int 1)))) := po_some (pe_un un_neg pe_int)
  refine wpAny_Slice (thn (po_none.run pins s1 σ H1 (fun o H2 => o = none ∧ H2 = H1) I1 ⟨rfl, rfl⟩) fun vl s2 ⟨l, H2, I2, pl, el, e2⟩ => ?_)
  subst el e2
  refine thn (po_none.run pins s2 σ H2 (fun o H3 => o = none ∧ H3 = H2) I2 ⟨rfl, rfl⟩) fun vu s3 ⟨u, H3, I3, pu, eu, e3⟩ => ?_
  subst eu e3
  refine thn (hst.run pins s3 σ H3 (fun o H4 => o = some (-1) ∧ H4 = H3) I3 ⟨1, rfl, -1, rfl, rfl, rfl⟩) fun vs s4 ⟨o, H4, I4, ps, eo, e4⟩ => ?_
  subst eo e4
  have I5 : Inv X pins σ H4 { s4 with heap := s4.heap.push { cls := .type "slice", data := .fields #[vl, vu, vs] } } := I4.kept (t' := s4.toks) fun b ob q => Heap.get?_push_of_some _ q
  obtain ⟨T, id, hT, ht, hg⟩ := rv_D (sl := s4.heap.objs.size) (Q := Q) I5 r1 (Heap.IsSliceOf.new _ vl vu vs) pl pu ps q1
  show wpAny (model X.prog X.w) X.A (subscriptTail e (.Slice none none (some (.UnaryOp .USub (.Constant (.int 1) k p1) p2)) p3) v (.ref s4.heap.objs.size)) (EP X pins σ Q) X.xe { s4 with heap := s4.heap.push { cls := .type "slice", data := .fields #[vl, vu, vs] } }
  exact tail_any (ops := [v, .ref s4.heap.objs.size]) ht hT hg (by with_unfolding_all rfl)
variable {S : Sta} {C : Ctx} {E : XK} {a : Expr} {ta : DE} {k : Nat} {p1 p2 p3 pos : Pos}
theorem e_rev (hK : X.K = S.K) (ha : PE X a (rdP S C E ta)) : PE X (.Subscript a (.Slice none none (some (.UnaryOp .USub (.Constant (.int 1) k p1) p2)) p3) pos) (rdE S C E (dRev ta)) :=
  (pe_rv ha).by' fun σ H Q ⟨Γ, F, H0, ρ, δ, hS, R, o⟩ => ⟨Γ, F, H0, ρ, δ, hS, R, o.bind.imp fun d1 δ1 H1 A1 o1 x r1 => by
    obtain ⟨r, e, q⟩ := o1.opt
    have R1 := R.aft A1
    exact ⟨Γ, _, d1, r, by rw [hK, ← hS], R1.ok', r1, e, fun v H' sm rv nw => q H' (aft_nw hK hS sm R1.dr R1.tab nw) v rv⟩⟩
end
end SG

set_option Elab.async false
set_option linter.all false
set_option maxRecDepth 100000
set_option maxHeartbeats 4000000
namespace SG
open PySem PySem.Spec L2
open PyProof.Rows hiding St
/-! ### d.get(k) -/
def sGet : D → D → Option D
  | .dct kvs, k => if (dKey k).isSome then some ((dlook kvs k).getD .non) else if kvs = [] ∧ (nkey k).isSome then some .non else none
  | .dcn kvs, k => (nkey k).map fun κ => (nlook kvs κ).getD .non
  | _, _ => none
def isDc : D → Bool
  | .dct _ => true
  | .dcn _ => true
  | _ => false
def dGet (a b : DE) : DE := fun C ρ => do
  let x ← a C ρ
  match isDc x with
  | true => do
    let y ← b C ρ
    M.opt (sGet x y)
  | false => fun _ => .fail
section
variable {S : Sta} {C : Ctx} {E : XK} {X : Cx} {o e : Expr} {apos cpos : Pos} {ta tb : DE}
theorem e_get (hK : X.K = S.K) (hu : X.A.units + 120 < cLine) (ho : PE X o (rdP S C E ta)) (he : PE X e (rdP S C E tb)) (hbase : attributeBase o "get" X.env (eval o X.env) = eval o X.env)
    (hfew : ((backTo cpos (starEach [e] X.env)).all (fun x => !x.1) && (backToKw cpos (keywordEach [] X.env)).all (fun x => x.1.isSome) && decide ([e].length + ([] : List Keyword).length + (if ([] : List Keyword).isEmpty then 0 else 1) < 30)) = true)
    (hline : (apos.endLine == cpos.line) = true) (hs : starEach [e] X.env = (false, eval e X.env) :: starEach [] X.env) (hplain : (backTo cpos (starEach [] X.env)).any (·.1) = false) :
    PE X (.Call (.Attribute o "get" apos) [e] [] cpos) (rdE S C E (dGet ta tb)) := by
  refine ⟨fun pins s σ H Q I ⟨Γ, F, H0, ρ, δ, hS, R, oo⟩ => ?_⟩
  have hK' : Γ.K = X.K := by rw [hK, ← hS]
  refine wpAny_Call_method_late hbase hfew hline rfl (thn (ho.run pins s σ H (fun x H1 => ∃ d δ1, Aft Γ δ1 H H1 ∧ RelP Γ H1 (Oall F ρ σ) d x ∧ OutG Γ H1 E (fun d _ H' => ∀ v, RelD Γ H' (Oall F ρ σ) d v → Q v H') ((match isDc d with
    | true => tb C ρ >>= fun y => M.opt (sGet d y)
    | false => fun _ => .fail) δ1)) I ⟨Γ, F, H0, ρ, δ, hS, R, oo.bindA.imp fun d δ1 H1 A o1 x rx => ⟨d, δ1, A, rx, o1.2⟩⟩) fun v s1 ⟨x, H1, I1, r1, d, δ1, A, rx, o1⟩ => ?_)
  have R1 := R.aft A
  cases hd : isDc d with
  | false => rw [hd] at o1; exact o1.elim
  | true =>
    rw [hd] at o1
    have tya : ∃ a, x = .ref a ∧ s1.TypeIs (.ref a) "dict" ∧ ∃ ob, s1.heap.get? a = some ob ∧ ob.dict = none := by
      cases d <;> simp only [isDc, Bool.false_eq_true] at hd
      · obtain ⟨a, ks, rfl, _, hr, rk⟩ := rx.dct R1.dO
        obtain ⟨_, hd, vs, _, dd⟩ := dk_rd I1.hok hr
        refine ⟨a, rfl, dd.typeIs, ?_⟩
        obtain ⟨ob, _, _, h1, h2, _⟩ := dd
        exact ⟨ob, h1, h2.2.1⟩
      · obtain ⟨a, ws, rfl, _, hr, rk⟩ := rx.dcn R1.dO
        obtain ⟨z, hsy, xs, en, hm⟩ := dn_at I1 hK' hr rk
        refine ⟨a, rfl, hm.typeIs, ?_⟩
        obtain ⟨ob, _, _, h1, h2, _⟩ := hm
        exact ⟨ob, h1, h2.2.1⟩
    obtain ⟨a, rfl, ty, ob, hob, hdn⟩ := tya
    cases (show v = Value.ref a from r1)
    refine ⟨"dict", "dict.get", PySem.F.plainAttrs_dict, PySem.F.slot_dict_get, PySem.F.type_dict_get, ty, fun b e => by cases e; exact ⟨ob, hob, hdn⟩, ?_⟩
    have hA := (pa_cons he pa_nil hs).run cpos pins s1 σ H1 (fun xs H2 => ∃ d2 δ2 y, xs = [y] ∧ Aft Γ δ2 H1 H2 ∧ RelP Γ H2 (Oall F ρ σ) d2 y ∧ ∃ r, sGet d d2 = some r ∧ ∀ H', Aft Γ δ2 H2 H' → ∀ v, RelD Γ H' (Oall F ρ σ) r v → Q v H') I1
      ⟨Γ, F, H0, ρ, δ1, hS, R1, o1.bindA.imp fun d2 δ2 H2 A2 o2 y ry => ⟨d2, δ2, y, rfl, o2.1, ry, o2.2.opt⟩⟩
    rw [hs] at hA ⊢
    refine Calls.callWith_builtin (by show (false || (backTo cpos (starEach [] X.env)).any (·.1)) = false; rw [hplain] <;> rfl) (Calls.evalArgs_plain ?_)
    refine thn hA fun us s2 ⟨vs, H2, I2, r2, d2, δ2, y, ev, A2, ry, r, hr, q⟩ => ?_
    subst ev
    have R2 := R1.aft A2
    have rx2 := rx.mvA A2 R.dO
    obtain ⟨u, rfl, ru⟩ := vals1 r2
    cases d <;> simp only [isDc, Bool.false_eq_true] at hd
    · obtain ⟨a', ks, ea, _, hrd, rk⟩ := rx2.dct R2.dO
      cases ea
      simp only [sGet] at hr
      split at hr
      · rename_i hk
        cases hr
        obtain ⟨k, hk⟩ := Option.isSome_iff_exists.mp hk
        have g : DGet H2 a y (valV ks k) := .inl ⟨ks, k, hrd, ry.key hk, rfl⟩
        refine d_get1 (by omega) I2 g ru fun w' s' I' rw' => ⟨_, H2, I', rw', q H2 R2.refl _ ?_⟩
        rw [kD_key hk]
        rcases rk.look k with ⟨h1, h2⟩ | ⟨_, _, h1, h2, h3⟩
        · rw [h1, h2]; exact .non
        · rw [h1, h2]; exact h3
      · split at hr
        · rename_i hk
          cases hr
          obtain ⟨rfl, hk⟩ := hk
          obtain ⟨κ, hκ⟩ := Option.isSome_iff_exists.mp hk
          cases rk
          obtain ⟨b, rfl, rd⟩ := nkey_ref hκ ry
          cases (show u = Value.ref b from ru)
          obtain ⟨hsy, hm⟩ := dk_nil I2 hrd
          exact get_keyed (knd := nestedKind X.prog X.w) (kvs := []) (show X.A.units + 1 + 8 < cLine by omega) (nkey_is I2 hK' hκ rd) hsy ⟨[], hm, rfl⟩ ⟨.non, H2, I2.tok _, rfl, q H2 R2.refl _ .non⟩
        · cases hr
    · obtain ⟨a', ws, ea, _, hrd, rk⟩ := rx2.dcn R2.dO
      cases ea
      simp only [sGet] at hr
      obtain ⟨κ, hκ, rfl⟩ := Option.map_eq_some_iff.mp hr
      obtain ⟨b, rfl, rd⟩ := nkey_ref hκ ry
      cases (show u = Value.ref b from ru)
      obtain ⟨z, hsy, xs, en, hm⟩ := dn_at I2 hK' hrd rk
      refine get_keyed (knd := nestedKind X.prog X.w) (show X.A.units + 1 + 8 < cLine by omega) (nkey_is I2 hK' hκ rd) hsy ⟨xs, hm, rfl⟩ ?_
      rw [valueAt_pairsH]
      rcases rk.look κ en with ⟨h1, h2⟩ | ⟨d', v', u', b', h1, h2, h3, h4⟩
      · rw [h1] at q
        rw [h2]
        exact ⟨.non, H2, I2.tok _, rfl, q H2 R2.refl _ .non⟩
      · rw [h1] at q
        rw [h2]
        exact ⟨v', H2, I2.tok _, h3, q H2 R2.refl _ h4⟩
end
end SG

set_option Elab.async false
set_option linter.all false
set_option maxRecDepth 100000
set_option maxHeartbeats 4000000
namespace SG
open PySem PySem.Spec L2
open PyProof.Rows hiding St
/-! ### defs as values -/
def dCallF (ns : List Nat) (i : Nat) (r : DA) : DE := fun C ρ => match ρ[i]? with
  | some (.val (.fn n)) => if n ∈ ns then (r C ρ >>= C.call n) else fun _ => .fail
  | _ => fun _ => .fail
def FnAll (P : Program) (w : World) (K : PySem.W.Frag) (mg : Str → Option Value) (base : Heap) (S : Sta) (C : Ctx) (k : Nat) (ns : List Nat) : Prop :=
  ∀ n ∈ ns, ∃ (y : Str) (ps : List Str), FnFact P w K mg base S k n y ps (C.call n)
section
variable {P : Program} {w : World} {K : PySem.W.Frag} {mg : Str → Option Value} {base : Heap} {S : Sta} {C : Ctx} {E : XK} {X : Cx} {e : Expr} {es : List Expr} {r : DA} {x y : Str} {p pos : Pos} {ps : List Str} {k n i : Nat} {ns : List Nat}
theorem fn_nil : FnAll P w K mg base S C k [] := fun _ h => nomatch h
theorem fn_cons (F : FnFact P w K mg base S k n y ps (C.call n)) (h : FnAll P w K mg base S C k ns) : FnAll P w K mg base S C k (n :: ns) := fun m hm => by
  rcases List.mem_cons.mp hm with rfl | hm
  · exact ⟨y, ps, F⟩
  · exact h m hm
theorem e_fn {f : List D → M D} (F : FnFact P w K X.mg base S k n x ps f) (hg : Gl X x) (hd : (x == ("__debug__" : Str)) = false) : PE X (.Name x pos) (rdE S C E (dC (.fn n))) := by
  obtain ⟨a, fd, h1, h2, _⟩ := F.ex
  refine ⟨fun pins s σ H Q I ⟨Γ, F, H0, ρ, δ, hS, R, o⟩ => ?_⟩
  have h1 : Γ.fn n = some a := by rw [← hS] at h1; exact h1
  exact (pe_glob (v := .ref a) hg h2 rfl hd).run pins s σ H Q I (o.pure H R.refl (.ref a) (.fn h1))
theorem e_callF (hK : X.K = S.K) (hF : FnAll X.prog X.w X.K X.mg X.base S C k ns) (hr : Room k X.A) (hN : X.N[i]? = some x) (hv : Vis X.env.scope x) (tk : Takes X (fun cls d _ H => E cls d H)) (ha : PA X (e :: es) (rdA S C E r))
    (hdb : (x == ("__debug__" : Str)) = false) (hcd : (x == ("__classdict__" : Str)) = false)
    (he : starEach (e :: es) X.env = (false, eval e X.env) :: starEach es X.env) (hpl : (backTo pos (starEach es X.env)).any (·.1) = false) : PE X (.Call (.Name x p) (e :: es) [] pos) (rdE S C E (dCallF ns i r)) := by
  refine ⟨fun pins s σ H Q I ⟨Γ, F, H0, ρ, δ, hS, R, o⟩ => ?_⟩
  rcases hq : ρ[i]? with _ | (_ | d | d)
  · simp only [dCallF, hq] at o; exact o.elim
  · simp only [dCallF, hq] at o; exact o.elim
  · cases d with
    | fn n =>
      simp only [dCallF, hq] at o
      by_cases hn : n ∈ ns
      · rw [if_pos hn] at o
        obtain ⟨y, ps, F'⟩ := hF n hn
        obtain ⟨a, fd, h1, h2, h3, h4, h5⟩ := F'.ex
        obtain ⟨v, hσ, rv⟩ := R.val i _ hq
        cases rv with
        | fn hb =>
          rename_i b
          have h1 : Γ.fn n = some a := by rw [← hS] at h1; exact h1
          have : some b = some a := hb.symm.trans h1
          cases this
          exact (pe_callL h5 hr hN hv h3 h4 .nil (passes_call tk fun _ _ _ _ z => z) ha hdb hcd he hpl).run pins s σ H Q I ⟨hσ, call_core (hK := hK) (X := X) ⟨Γ, F, H0, ρ, δ, hS, R, o⟩⟩
      · rw [if_neg hn] at o; exact o.elim
    | _ => simp only [dCallF, hq] at o; exact o.elim
  · simp only [dCallF, hq] at o; exact o.elim
end
end SG

set_option Elab.async false
set_option linter.all false
set_option maxRecDepth 100000
set_option maxHeartbeats 4000000
namespace SG
open PySem PySem.Spec L2
open PyProof.Rows hiding St
/-! ### sum(lists, []) -/
section
variable {prog : Program} {w : World} {A : Around} {E : Value → Shared → Prop} {R : Result → Shared → Prop} {s : Shared} {l b : Addr}
theorem cat_lists {vs ws : List Value} {Q : Value → Shared → Prop} (hl : s.heap.IsList l vs.toArray) (hb : s.heap.IsList b ws.toArray)
    (h : Q (.ref s.heap.objs.size) { s with heap := s.heap.push { cls := .type "list", data := .seq (vs ++ ws).toArray } })
    (hsz : vs.length + ws.length ≤ sizeLine) : wpAny (model prog w) A (binaryOp .Add (.ref l) (.ref b)) Q E s := by
  obtain ⟨⟨cls, dd, data, sl⟩, ho, hc, n, hd⟩ := id hl
  obtain ⟨⟨cls2, dd2, data2, sl2⟩, ho2, hc2, n2, hd2⟩ := id hb
  simp only at hc hd hc2 hd2
  subst hc hd hc2 hd2
  have e : vs.toArray ++ ws.toArray = (vs ++ ws).toArray := by simp
  refine concat_meets ⟨_, ho, rfl⟩ ⟨_, ho2, rfl⟩ noFill_list_add seq_list_add PySem.F.slot_list_add PySem.F.entry_list_add (PySem.F.args_list_add_2 _ _) (list_addW l b vs.toArray ws.toArray n n2 dd dd2 sl sl2 (by simpa using hsz)) ⟨ho, ho2, ?_⟩
  rw [e]
  exact h
theorem at_pl {h h' : Heap} {a : Addr} {its : Array Value} (x : PlainL h a its) (k : ∀ o, h.get? a = some o → h'.get? a = some o) : PlainL h' a its :=
  let ⟨o, n, e, r⟩ := x; ⟨o, n, k o e, r⟩
/-- what the lists hold, up to the i-th -/
def catN (xs : Nat → List Value) : Nat → List Value
  | 0 => []
  | i + 1 => catN xs i ++ xs i
theorem sum_loopL {h0 : Heap} {I ax S n : Nat} {P : Nat → Value → Prop} {St : Nat → Heap → Prop} {xs : Nat → List Value} (W : Walks prog w A.in1 I [I, ax] [I] n P St) (hI : h0.objs.size ≤ I) (hIS : I < S) (hax : ax < S)
    (hP : ∀ i v, i < n → P i v → ∃ c, v = .ref c ∧ h0.IsList c (xs i).toArray) (hz : (catN xs n).length ≤ sizeLine) (hzi : ∀ i, i < n → (catN xs i).length + (xs i).length ≤ sizeLine) :
    ∀ (k i : Nat) (s : Shared) (a : Addr) (c : Nat), n - i = k → i ≤ n → St i s.heap → s.heap.get? S = some { cls := .type "list", dict := none, data := .seq #[.ref a] c, slots := #[] } →
      PlainL s.heap a (catN xs i).toArray → a ≠ I → a ≠ S → (i = 0 ∨ (S < a ∧ IsL s.heap a (catN xs i).toArray 0)) → (∀ b o, h0.get? b = some o → s.heap.get? b = some o) →
      (∀ h' tk a', PlainL h' a' (catN xs n).toArray → (n = 0 ∨ (S < a' ∧ IsL h' a' (catN xs n).toArray 0)) → (∀ b o, h0.get? b = some o → h'.get? b = some o) → R (.ok (.ret (.ref a'))) { s with heap := h', toks := tk }) →
      codeAny (model prog w) A (.builtin "sum.loop" ⟨[.ref I, .ref S, rawInt 2, rawInt 0], []⟩) R s := by
  have hSw : S ∉ [I] := fun z => by
    rcases List.mem_cons.mp z with z | z
    · exact absurd hIS (by rw [z]; exact Nat.lt_irrefl _)
    · exact nomatch z
  have h0I : ∀ b o, h0.get? b = some o → b ∉ [I] := fun b o e z => by
    rcases List.mem_cons.mp z with z | z
    · exact absurd (Nat.lt_of_lt_of_le (Heap.lt_size e) hI) (by rw [z]; exact Nat.lt_irrefl _)
    · exact nomatch z
  intro k
  induction k with
  | zero =>
    intro i s a c hk hi hst hS ha haI haS hd hkp hR
    have hin : i = n := by omega
    subst hin
    refine codeAny_builtin F.entry_sum_loop ?_
    rw [Around.under_plainId F.plain_sum_loop _]
    show wpAny _ A.in1 (seqItems? (.ref S) >>= _) _ _ s
    refine wpAny_bind (wpAny_seqItems hS rfl ?_)
    show wpAny _ A.in1 (tryCatch (pyNext (.ref I)) _ >>= _) _ _ s
    refine wpAny_bind (wpAny_tryCatch (W.done s _ _ hst fun h' tk hk' => ?_))
    refine wpAny_pure (hR h' tk a (at_pl ha fun o e => hk' a o (by simpa using haI) e) (hd.imp_right fun z => ⟨z.1, hk' a _ (by simpa using haI) z.2⟩) fun b o e => hk' b o (h0I b o e) (hkp b o e))
  | succ k ih =>
    intro i s a c hk hi hst hS ha haI haS hd hkp hR
    have hlt : i < n := by omega
    refine codeAny_builtin F.entry_sum_loop ?_
    rw [Around.under_plainId F.plain_sum_loop _]
    show wpAny _ A.in1 (seqItems? (.ref S) >>= _) _ _ s
    refine wpAny_bind (wpAny_seqItems hS rfl ?_)
    show wpAny _ A.in1 (tryCatch (pyNext (.ref I)) _ >>= _) _ _ s
    refine wpAny_bind (wpAny_tryCatch (W.item i s _ _ hlt hst fun v h' tk hPv hst' hk' => ?_))
    obtain ⟨b, rfl, hb⟩ := hP i v hlt hPv
    have hkp' : ∀ b o, h0.get? b = some o → h'.get? b = some o := fun b o e => hk' b o (h0I b o e) (hkp b o e)
    have hb' : h'.IsList b (xs i).toArray := hb.at fun o e => hkp' b o e
    have ha' : h'.IsList a (catN xs i).toArray := ha.isList.at fun o e => hk' a o (by simpa using haI) e
    have hS' := hk' S _ hSw hS
    have hSlt := Heap.lt_size hS'
    show wpAny _ A.in1 ((holding [Value.ref b] (binaryOp .Add (.ref a) (.ref b))).attempt >>= _) _ _ _
    refine wpAny_bind (wpAny_attempt (wpAny_holding (cat_lists (s := { s with heap := h', toks := tk }) ha' hb' ?_ (hzi i hlt))))
    show wpAny _ A.in1 (updateSeq S (fun _ => #[Value.ref h'.objs.size]) >>= _) _ _ _
    have hS1 := Heap.get?_push_of_some ({ cls := .type "list", data := .seq (catN xs i ++ xs i).toArray } : Obj) hS'
    refine wpAny_bind (wpAny_updateSeq hS1 rfl ?_)
    have hS2 := Heap.get?_update_self (Obj.mapSeq fun _ => #[Value.ref h'.objs.size]) hS1 rfl
    refine wpAny_bind (wpAny_letGo ?_)
    refine wpAny_bind (wpAny_updateSeq hS2 rfl (wpAny_pure ⟨plainId_quiet F.plain_sum_loop _, ?_⟩))
    have keep : ∀ b o, b ≠ S → h'.get? b = some o → (((h'.push { cls := .type "list", data := .seq (catN xs i ++ xs i).toArray }).update S (Obj.mapSeq fun _ => #[Value.ref h'.objs.size])).update S (Obj.mapSeq fun _ => #[Value.ref h'.objs.size])).get? b = some o := fun b o hbS e =>
      (Heap.get?_update_other _ _ (Ne.symm hbS)).trans ((Heap.get?_update_other _ _ (Ne.symm hbS)).trans (Heap.get?_push_of_some _ e))
    have hnew : (((h'.push { cls := .type "list", data := .seq (catN xs i ++ xs i).toArray }).update S (Obj.mapSeq fun _ => #[Value.ref h'.objs.size])).update S (Obj.mapSeq fun _ => #[Value.ref h'.objs.size])).get? h'.objs.size = some { cls := .type "list", data := .seq (catN xs i ++ xs i).toArray } :=
      (Heap.get?_update_other _ _ (Nat.ne_of_lt hSlt)).trans ((Heap.get?_update_other _ _ (Nat.ne_of_lt hSlt)).trans (Heap.get?_push_size _ rfl))
    refine ih (i + 1) _ h'.objs.size _ (by omega) hlt (W.frame _ _ _ hst' fun b hb o e => keep b o ?_ e) (Heap.get?_update_self _ hS2 rfl) ⟨_, _, hnew, rfl, rfl, rfl⟩ (Nat.ne_of_gt (Nat.lt_trans hIS hSlt)) (Nat.ne_of_gt hSlt) (.inr ⟨hSlt, hnew⟩) (fun b o e => keep b o ?_ (hkp' b o e)) hR
    · rcases List.mem_cons.mp hb with rfl | hb
      · exact Nat.ne_of_lt hIS
      · rcases List.mem_cons.mp hb with rfl | hb
        · exact Nat.ne_of_lt hax
        · cases hb
    · exact Nat.ne_of_lt (Nat.lt_of_lt_of_le (Heap.lt_size e) (Nat.le_trans hI (Nat.le_of_lt hIS)))
theorem args_sum2 (a b : Value) : argsOk "sum" ⟨[a, b], []⟩ := by unfold argsOk; kernel_rfl
theorem sum_lists {items : Array Value} {xs : Nat → List Value} {Q : Value → Shared → Prop} (hh : A.handled = none) (hl : s.heap.IsList l items) (hb : PlainL s.heap b #[])
    (hP : ∀ i, (h : i < items.size) → ∃ c, items[i] = .ref c ∧ s.heap.IsList c (xs i).toArray) (hne : 0 < items.size) (hz : (catN xs items.size).length ≤ sizeLine) (hzi : ∀ i, i < items.size → (catN xs i).length + (xs i).length ≤ sizeLine)
    (h : ∀ h' tk a, IsL h' a (catN xs items.size).toArray 0 → s.heap.objs.size ≤ a → (∀ b o, s.heap.get? b = some o → h'.get? b = some o) → Q (.ref a) { s with heap := h', toks := tk }) :
    wpAny (model prog w) A (call (.builtin "sum") [.ref l, .ref b]) Q E s := by
  refine call_function_tree F.kind_sum F.plain_sum F.entry_sum (args_sum2 _ _) ?_
  unfold Builtin.«sum»
  simp only [List.length_cons, List.length_nil]
  rw [if_neg (by decide)]
  refine wpAny_bind (wpAny_of_eq (show Builtin.Builtins.bindParams "sum" ["start"] 0 ⟨[.ref b], []⟩ = pure [some (.ref b)] from rfl) ?_)
  refine wpAny_bind (iter_anyList hl fun s₂ e st hfp hlI => ?_)
  have hlt : l < s.heap.objs.size := by obtain ⟨_, e, _⟩ := hl; exact Heap.lt_size e
  have hblt : b < s.heap.objs.size := hb.lt
  subst e
  have hb2 : PlainL (s.heap.push { cls := .type "list_iterator", data := .fields #[.ref l, .int 0 0] }) b #[] := hb.keeps fun c o e => Heap.get?_push_of_some _ e
  refine wpAny_bind (wpAny_pure ?_)
  have ty : Shared.TypeIs { s with heap := s.heap.push { cls := .type "list_iterator", data := .fields #[.ref l, .int 0 0] } } (.ref b) "list" := hb2.isList.typeIs
  simp only [List.forIn_cons, List.forIn_nil]
  refine wpAny_bind (wpAny_bind (wpAny_bind (wpAny_isInstance (T := "list") (b := false) ty F.sub_list_str ?_)))
  simp only [Bool.false_eq_true, if_false]
  refine wpAny_pure (wpAny_bind (wpAny_bind (wpAny_isInstance (T := "list") (b := false) ty F.sub_list_bytes ?_)))
  simp only [Bool.false_eq_true, if_false]
  refine wpAny_pure (wpAny_bind (wpAny_bind (wpAny_isInstance (T := "list") (b := false) ty F.sub_list_bytearray ?_)))
  simp only [Bool.false_eq_true, if_false]
  refine wpAny_pure (wpAny_pure ?_)
  refine wpAny_bind (wpAny_newObj_type ?_)
  have hsz : (s.heap.push { cls := .type "list_iterator", data := .fields #[.ref l, .int 0 0] }).objs.size = s.heap.objs.size + 1 := Heap.size_push _ _
  refine wpAny_pure ⟨plainId_quiet F.plain_sum_loop _, sum_loopL (h0 := s.heap) (xs := xs) (S := (s.heap.push { cls := .type "list_iterator", data := .fields #[.ref l, .int 0 0] }).objs.size) (Walks.list (A := A.in1) hh s.heap.objs.size l hlI items) (Nat.le_refl _) (by rw [hsz]; exact Nat.lt_succ_self _) (by rw [hsz]; exact Nat.lt_succ_of_lt hlt)
    (fun i v hi hv => ?_) hz hzi _ 0 _ b _ rfl (Nat.zero_le _) ?_ (Heap.get?_push_size _ rfl) ?_ (Nat.ne_of_lt hblt) (by rw [hsz]; exact Nat.ne_of_lt (Nat.lt_succ_of_lt hblt)) (.inl rfl) (fun c o e => Heap.get?_push_of_some _ (Heap.get?_push_of_some _ e)) fun h' tk a p q k => ?_⟩
  · have e : items[i]? = some v := hv
    obtain ⟨hi', rfl⟩ := Array.getElem?_eq_some_iff.mp e
    exact hP i hi'
  · exact ⟨st.1.at fun o e => Heap.get?_push_of_some _ e, st.2.push _⟩
  · exact hb2.keeps fun c o e => Heap.get?_push_of_some _ e
  · rcases q with q | q
    · omega
    · exact h h' tk a q.2 (by have q := q.1; rw [hsz] at q; exact Nat.le_of_lt (Nat.lt_of_succ_lt q)) k
end
def lsts : List D → Option (List (List D))
  | [] => some []
  | .lst ds :: r => (lsts r).map (ds :: ·)
  | _ :: _ => none
def sSumL : D → D → Option D
  | .lst (x :: r), .lst [] => (lsts (x :: r)).bind fun dss => if dss.flatten.length ≤ LINE then some (.lst dss.flatten) else none
  | _, _ => none
theorem catN_take (L : List (List Value)) : ∀ i, i ≤ L.length → catN (fun i => L.getD i []) i = (L.take i).flatten
  | 0, _ => by simp [catN]
  | i + 1, h => by
    have hi : i < L.length := h
    rw [catN, catN_take L i (by omega), List.take_succ, List.getElem?_eq_getElem hi, List.flatten_append, List.getD_eq_getElem?_getD, List.getElem?_eq_getElem hi]
    simp
section
variable {X : Cx} {Γ : Gm} {H : Hp} {O : Addr → Prop} {σ : St} {pins : List (Addr × Obj)} {s : Shared}
theorem lists_of (I : Inv X pins σ H s) : ∀ {xss : List D} {vs : List V} {dss : List (List D)} {its : List Value}, lsts xss = some dss → RelDs Γ H O xss vs → Vals vs its →
    ∃ (vss : List (List V)) (L : List (List Value)), L.length = its.length ∧ (∀ i (h : i < its.length), ∃ c, its[i] = .ref c ∧ s.heap.IsList c (L.getD i []).toArray) ∧ RelDs Γ H O dss.flatten vss.flatten ∧ Vals vss.flatten L.flatten
  | [], _, _, its, h, r, rv => by
    cases h
    cases r
    cases rv
    exact ⟨[], [], rfl, fun i h => absurd h (Nat.not_lt_zero _), .nil, .nil⟩
  | x :: xss, _, dss, its, h, r, rv => by
    cases x <;> simp only [lsts, reduceCtorEq] at h
    obtain ⟨dss2, h5, rfl⟩ := Option.map_eq_some_iff.mp h
    cases r with
    | cons rx rr =>
      cases rv with
      | cons ru rus =>
        obtain ⟨vss, L, h1, h2, h3, h4⟩ := lists_of I h5 rr rus
        cases rx with
        | lst hn hp rp =>
          rename_i a xs
          cases ru
          obtain ⟨us, r1, pl, hz⟩ := I.list (SqL.of hp)
          refine ⟨xs :: vss, us :: L, by simp [h1], fun i hi => ?_, ?_, ?_⟩
          · cases i with
            | zero => exact ⟨a, rfl, pl.isList⟩
            | succ i =>
              obtain ⟨c, e, g⟩ := h2 i (by simpa using hi)
              exact ⟨c, by simpa using e, by simpa using g⟩
          · simp only [List.flatten_cons]; exact rp.append h3
          · simp only [List.flatten_cons]; exact r1.append h4
theorem b_sumL (hc : X.calm = true) : CallR X (.builtin "sum") (rC2 X.K sSumL) := by
  intro pins s σ H xs us Q I r hh
  obtain ⟨x, y, Γ, O, d, e, res, rfl, hK, ok, px, py, hs, q⟩ := hh
  obtain ⟨u1, us, rfl, ru1, r⟩ : ∃ u us', us = u :: us' ∧ RelV x u ∧ Vals [y] us' := by
    cases r with
    | cons a b => exact ⟨_, _, rfl, a, b⟩
  obtain ⟨u2, rfl, ru2⟩ := vals1 r
  unfold sSumL at hs
  split at hs
  · rename_i x0 r0
    obtain ⟨dss, hd, hs⟩ := Option.bind_eq_some_iff.mp hs
    split at hs
    · rename_i hlen
      cases hs
      obtain ⟨a, vs, rfl, n, hp, rp⟩ := px.lst ok.d
      obtain ⟨b, vs2, rfl, n2, hp2, rp2⟩ := py.lst ok.d
      cases rp2
      obtain rfl : u1 = Value.ref a := ru1
      obtain rfl : u2 = Value.ref b := ru2
      obtain ⟨its, rv, pl, hz⟩ := I.list (SqL.of hp)
      obtain ⟨its2, rv2, pl2, hz2⟩ := I.list (SqL.of hp2)
      cases rv2
      obtain ⟨vss, L, h1, h2, h3, h4⟩ := lists_of I hd rp rv
      have hn : L.flatten.length = dss.flatten.length := by rw [← h4.length, ← h3.length]
      have hcat : ∀ i, i ≤ its.toArray.size → catN (fun i => L.getD i []) i = (L.take i).flatten := fun i hi => catN_take L i (by rw [h1]; simpa using hi)
      have hle : ∀ i, (L.take i).flatten.length ≤ L.flatten.length := fun i => by
        have h := congrArg (fun z => z.flatten.length) (List.take_append_drop i L)
        simp only [List.flatten_append, List.length_append] at h
        omega
      have hS : LINE ≤ sizeLine := by rw [LINE_eq]; exact Nat.le_refl _
      have hf : catN (fun i => L.getD i []) its.toArray.size = L.flatten := by
        rw [hcat _ (Nat.le_refl _), List.take_of_length_le (by rw [h1]; simp)]
      refine sum_lists (xs := fun i => L.getD i []) (I.ok.hd hc) pl.isList pl2 (fun i hi => h2 i (by simpa using hi)) ?_ (by rw [hf, hn]; exact Nat.le_trans hlen hS) (fun i hi => ?_) fun h' tk p hl' hfr kp => ?_
      · have := rv.length
        have := rp.length
        simp only [List.length_cons] at this
        simp only [List.size_toArray]
        omega
      · have hi' : i < L.length := by rw [h1]; simpa using hi
        have e1 := hcat (i + 1) (by omega)
        have e2 := hle (i + 1)
        rw [← e1, catN, List.length_append] at e2
        omega
      · rw [hf] at hl'
        have hpn : H p = none := I.hok.fresh hfr
        refine ⟨.ref p, _, I.laid (t' := tk) kp hfr (show ObjOk X.prog X.w _ h' _ (.lst vss.flatten) from ⟨by rw [h4.length, hn]; exact Nat.le_trans hlen hS, L.flatten, 0, h4, hl'⟩), rfl, ?_⟩
        exact q _ _ (same_new hpn) (.lst (ok.fresh hpn) upd_same (h3.ext (same_ext (same_new hpn) O)))
    · cases hs
  · cases hs
end
end SG

set_option Elab.async false
set_option linter.all false
set_option maxRecDepth 100000
set_option maxHeartbeats 0
namespace SG
open PySem PySem.Spec L2
open PyProof.Rows hiding St
def top (i : Nat) : Stmt := (PySem.Challenge.pw_squaresglued_k19_whole_half_turns).main.body.getD i (.Pass ⟨0, 0, 0, 0⟩)
abbrev x_SquareError : Nat := 0
abbrev x_BadSurface : Nat := 1
def clL : Cls := [("SquareError", [0, 1]), ("BadSurface", [1])]
abbrev i_is_number : Nat := 0
abbrev i_is_naming : Nat := 1
abbrev i_then_by : Nat := 2
abbrev i_back_by : Nat := 3
abbrev i_reached : Nat := 4
abbrev i_is_surface_of : Nat := 5
abbrev i_need_surface : Nat := 6
abbrev i_renamed_by : Nat := 7
abbrev i_walk_by : Nat := 8
abbrev i_renamings_by : Nat := 9
abbrev i_turned_by : Nat := 10
abbrev i_half_by : Nat := 11
abbrev i_half_turns : Nat := 12
abbrev i__law_mixed : Nat := 13
abbrev i__law_take : Nat := 14
abbrev i__law_pick : Nat := 15
abbrev i__law_shuffled : Nat := 16
abbrev i__law_kinds : Nat := 17
abbrev i__law_says : Nat := 18
abbrev i__law_then : Nat := 19
abbrev i__law_back : Nat := 20
abbrev i__law_power : Nat := 21
abbrev i__law_hangs : Nat := 22
abbrev i__law_renamed : Nat := 23
abbrev i__law_walk : Nat := 24
abbrev i__law_renamings : Nat := 25
abbrev i__law_sheared : Nat := 26
abbrev i__law_turned : Nat := 27
abbrev i__law_moved : Nat := 28
abbrev i__law_naming : Nat := 29
abbrev i__law_surface : Nat := 30
abbrev i__law_small_row : Nat := 31
abbrev i__law_no_surface : Nat := 32
abbrev i__law_halves : Nat := 33
abbrev i__law_namings : Nat := 34
abbrev i__law_right : Nat := 35
def N_is_number : List Str := ["thing"]
noncomputable def c_is_number : DS := dRet (dAndV (dFun1 (sIsi ["int"]) (dPeek 0)) (dNotV (dFun1 (sIsi ["bool"]) (dPeek 0))))
def N_is_naming : List Str := ["many", "thing", "item"]
noncomputable def c_is_naming : DS := dSeq (dIfS (dOr (dNot (dTst (dFun1 (sIsi ["tuple"]) (dPeek 1)))) (dOr (dCmp .NotEq (dFun1 sLen (dPeek 1)) (dPeek 0)) (dNot (dTst (dFun1 sAll (dLc (dIt (dPeek 1)) (.n 2) (fun _ _ => M.pure true) (dCall i_is_number (dCons (dVar 2) (dNil))) [2])))))) (dRet (dC (.bl false))) (dNop)) (dRet (dBl (dCmp .Eq (dFun1 sSorted (dPeek 1)) (dRg1 .lst (dVar 0)))))
def N_then_by : List Str := ["one", "other", "square"]
noncomputable def c_then_by : DS := dRet (dFun1 sTuple (dLc (dIt (dPeek 0)) (.n 2) (fun _ _ => M.pure true) (dIx (dPeek 1) (dPeek 2)) [2]))
def N_back_by : List Str := ["naming", "found", "square", "late"]
noncomputable def c_back_by : DS := dSeq (dSet 1 (zO (dLc (dIt (dPeek 0)) (.n 2) (fun _ _ => M.pure true) (dC (.int 0)) [2]))) (dSeq (dFor (dEnum (dVar 0)) (.t [.n 2, .n 3]) (dSetItem 1 (dVar 3) (zV (dVar 2)))) (dRet (dFun1 sTuple (dPeek 1))))
def N_reached : List Str := ["right", "up", "seen", "line", "here", "late"]
noncomputable def c_reached : DS := dSeq (dPar2 2 3 (zO (dDisp [(dC (.int 0), dC (.bl true))])) (zO (dLst (dCons (dC (.int 0)) (dNil))))) (dSeq (dWhile (dCmp .NotEq (dPeek 3) (dLst (dNil))) (dSeq (dSetM 4 (dPop 3)) (dFor (dIt (dTup (dCons (dIx (dPeek 0) (dPeek 4)) (dCons (dIx (dPeek 1) (dPeek 4)) (dNil))))) (.n 5) (dIfS (dCmp .NotIn (dPeek 5) (dPeek 2)) (dSeq (dSetItem 2 (dVar 5) (zV (dC (.bl true)))) (dApp 3 (mV (dVar 5)))) (dNop))))) (dEsc [2] (dRet (dVar 2))))
def N_is_surface_of : List Str := ["thing", "many"]
noncomputable def c_is_surface_of : DS := dSeq (dIfS (dOr (dNot (dTst (dFun1 (sIsi ["tuple"]) (dPeek 0)))) (dOr (dCmp .NotEq (dFun1 sLen (dPeek 0)) (dC (.int 2))) (dNot (dTst (dFun1 (sIsi ["tuple"]) (dIx (dPeek 0) (dC (.int 0)))))))) (dRet (dC (.bl false))) (dNop)) (dSeq (dSet 1 (zV (dFun1 sLen (dIx (dPeek 0) (dC (.int 0)))))) (dSeq (dIfS (dOr (dNot (dChain .LtE .LtE (dC (.int 1)) (dPeek 1) (dC (.int 6)))) (dOr (dNot (dTst (dCall i_is_naming (dCons (dVar 1) (dCons (dIx (dPeek 0) (dC (.int 0))) (dNil)))))) (dNot (dTst (dCall i_is_naming (dCons (dVar 1) (dCons (dIx (dPeek 0) (dC (.int 1))) (dNil)))))))) (dRet (dC (.bl false))) (dNop)) (dRet (dBl (dCmp .Eq (dFun1 sLen (dCall i_reached (dCons (dIx (dPeek 0) (dC (.int 0))) (dCons (dIx (dPeek 0) (dC (.int 1))) (dNil))))) (dPeek 1))))))
def N_need_surface : List Str := ["surface"]
noncomputable def c_need_surface : DS := dIfS (dNot (dTst (dCall i_is_surface_of (dCons (dVar 0) (dNil))))) (dRaise x_BadSurface) (dNop)
def N_renamed_by : List Str := ["surface", "names", "back", "naming"]
noncomputable def c_renamed_by : DS := dSeq (dSet 2 (zV (dCall i_back_by (dCons (dVar 1) (dNil))))) (dRet (dFun1 sTuple (dLc (dIt (dPeek 0)) (.n 3) (fun _ _ => M.pure true) (dCall i_then_by (dCons (dCall i_then_by (dCons (dVar 2) (dCons (dVar 3) (dNil)))) (dCons (dVar 1) (dNil)))) [3])))
def N_walk_by : List Str := ["surface", "square", "names", "line", "at", "naming", "late", "one"]
noncomputable def c_walk_by : DS := dSeq (dPar2 2 3 (zO (dDisp [(dVar 1, dC (.int 0))])) (zO (dLst (dCons (dVar 1) (dNil))))) (dSeq (dFor (dRng1 (dFun1 sLen (dIx (dPeek 0) (dC (.int 0))))) (.n 4) (dFor (dIt (dVar 0)) (.n 5) (dSeq (dSet 6 (zV (dIx (dPeek 5) (dIx (dPeek 3) (dPeek 4))))) (dIfS (dCmp .NotIn (dPeek 6) (dPeek 2)) (dSeq (dSetItem 2 (dVar 6) (zV (dFun1 sLen (dPeek 3)))) (dApp 3 (mV (dVar 6)))) (dNop))))) (dRet (dFun1 sTuple (dLc (dRng1 (dFun1 sLen (dPeek 3))) (.n 7) (fun _ _ => M.pure true) (dIx (dPeek 2) (dPeek 7)) [7]))))
def N_renamings_by : List Str := ["one", "other", "first", "every", "square", "names"]
noncomputable def c_renamings_by : DS := dSeq (dIfS (dCmp .NotEq (dFun1 sLen (dIx (dPeek 0) (dC (.int 0)))) (dFun1 sLen (dIx (dPeek 1) (dC (.int 0))))) (dRet (dLst (dNil))) (dNop)) (dSeq (dSet 2 (zV (dCall i_walk_by (dCons (dVar 0) (dCons (dC (.int 0)) (dNil)))))) (dSeq (dSet 3 (zV (dLc (dRng1 (dFun1 sLen (dIx (dPeek 1) (dC (.int 0))))) (.n 4) (fun _ _ => M.pure true) (dCall i_then_by (dCons (dVar 2) (dCons (dCall i_back_by (dCons (dCall i_walk_by (dCons (dVar 1) (dCons (dVar 4) (dNil)))) (dNil))) (dNil)))) [4]))) (dRet (dFun1 sSorted (dLc (dIt (dPeek 3)) (.n 5) (dCmp .Eq (dCall i_renamed_by (dCons (dVar 0) (dCons (dVar 5) (dNil)))) (dPeek 1)) (dVar 5) [5])))))
def N_turned_by : List Str := ["surface", "many", "lap"]
noncomputable def c_turned_by : DS := dSeq (dFor (dRng1 (dBin .Mod (dPeek 1) (dC (.int 4)))) (.n 2) (dSet 0 (zV (dTup (dCons (dCall i_back_by (dCons (dIx (dPeek 0) (dC (.int 1))) (dNil))) (dCons (dIx (dPeek 0) (dC (.int 0))) (dNil))))))) (dRet (dVar 0))
def N_half_by : List Str := ["surface"]
noncomputable def c_half_by : DS := dRet (dFun1 sTuple (dCall i_renamings_by (dCons (dVar 0) (dCons (dCall i_turned_by (dCons (dVar 0) (dCons (dC (.int 2)) (dNil)))) (dNil)))))
def N_half_turns : List Str := ["surface"]
noncomputable def c_half_turns : DS := dSeq (dDrop (dCall i_need_surface (dCons (dVar 0) (dNil)))) (dRet (dCall i_half_by (dCons (dVar 0) (dNil))))
def N__law_mixed : List Str := ["draw", "lap", "found", "great", "blend", "cell"]
noncomputable def c__law_mixed : DS := dSeq (dSetTurn 0 (dBin .Add (dTurn 0) (dC (.int 1)))) (dSeq (dPar2 1 2 (zV (dFun1 sInt (dTurn 0))) (zV (dC (.int 0)))) (dSeq (dFor (dIt (dLst (dCons (dC (.int 2147483647)) (dCons (dC (.int 2147483629)) (dCons (dC (.int 2147483587)) (dNil)))))) (.n 3) (dSeq (dSet 4 (zV (dBin .Mod (dBin .Add (dBin .Mult (dPeek 1) (dC (.int 48271))) (dBin .FloorDiv (dPeek 3) (dC (.int 11)))) (dPeek 3)))) (dSeq (dForCells 0 5 (dSet 4 (zV (dBin .Mod (dBin .Add (dBin .Add (dBin .Mult (dPeek 4) (dC (.int 69621))) (dFun1 sInt (dPeek 5))) (dPeek 1)) (dPeek 3))))) (dSet 2 (zV (dBin .Add (dBin .Mult (dPeek 2) (dC (.int 2147483659))) (dBin .Mod (dBin .Pow (dPeek 4) (dC (.int 5))) (dPeek 3)))))))) (dRet (dVar 2))))
def N__law_take : List Str := ["draw", "amount", "found"]
noncomputable def c__law_take : DS := dSeq (dIfS (dCmp .Eq (dRest 0) (dC (.int 0))) (dSetRest 0 (dIf (dLargeNe 0) (dPopLarge 0) (dCall i__law_mixed (dCons (dVar 0) (dNil))))) (dNop)) (dSeq (dSet 2 (zV (dBin .Mod (dFun1 sInt (dRest 0)) (dPeek 1)))) (dSeq (dSetRest 0 (dBin .FloorDiv (dFun1 sInt (dRest 0)) (dPeek 1))) (dRet (dVar 2))))
def N__law_pick : List Str := ["draw", "some"]
noncomputable def c__law_pick : DS := dRet (dIx (dPeek 1) (dCall i__law_take (dCons (dVar 0) (dCons (dFun1 sLen (dPeek 1)) (dNil)))))
def N__law_shuffled : List Str := ["draw", "some", "left", "found"]
noncomputable def c__law_shuffled : DS := dSeq (dPar2 2 3 (zO (dFun1 sList (dPeek 1))) (zO (dLst (dNil)))) (dSeq (dWhile (dCmp .NotEq (dPeek 2) (dLst (dNil))) (dApp 3 (dPopAt 2 (dCall i__law_take (dCons (dVar 0) (dCons (dFun1 sLen (dPeek 2)) (dNil))))))) (dEsc [3] (dRet (dVar 3))))
def N__law_kinds : List Str := ["thing", "found", "path", "here", "sort", "named", "key", "name"]
noncomputable def c__law_kinds : DS := dSeq (dPar2 1 2 (zO (dLst (dNil))) (zO (dLst (dCons (dVar 0) (dNil))))) (dSeq (dWhile (dCmp .NotEq (dPeek 2) (dLst (dNil))) (dSeq (dSetM 3 (dPop 2)) (dSeq (dSet 4 (zV (dIf (dTst (dFun1 (sIsi ["tuple"]) (dPeek 3))) (dC (.str "tuple")) (dIf (dTst (dFun1 (sIsi ["list"]) (dPeek 3))) (dC (.str "list")) (dIf (dTst (dFun1 (sIsi ["dict"]) (dPeek 3))) (dC (.str "dict")) (dIf (dTst (dFun1 (sIsi ["bool"]) (dPeek 3))) (dC (.str "bool")) (dC (.str "other")))))))) (dSeq (dApp 1 (mV (dVar 4))) (dSeq (dIfS (dCmp .In (dPeek 4) (dLst (dCons (dC (.str "tuple")) (dCons (dC (.str "list")) (dNil))))) (dSet 2 (zO (dCat (dPeek 2) (dFun1 sList (dPeek 3))))) (dNop)) (dIfS (dCmp .Eq (dPeek 4) (dC (.str "dict"))) (dFail) (dNop))))))) (dEsc [1] (dRet (dVar 1))))
def N__law_says : List Str := ["told", "due"]
noncomputable def c__law_says : DS := dRet (dAndV (dBl (dCmp .Eq (dPeek 0) (dPeek 1))) (dBl (dCmp .Eq (dCall i__law_kinds (dCons (dVar 0) (dNil))) (dCall i__law_kinds (dCons (dVar 1) (dNil))))))
def N__law_then : List Str := ["one", "other", "square"]
noncomputable def c__law_then : DS := dRet (dFun1 sTuple (dLc (dIt (dPeek 0)) (.n 2) (fun _ _ => M.pure true) (dIx (dPeek 1) (dPeek 2)) [2]))
def N__law_back : List Str := ["one", "square"]
noncomputable def c__law_back : DS := dRet (dFun1 sTuple (dLc (dRng1 (dFun1 sLen (dPeek 0))) (.n 1) (fun _ _ => M.pure true) (dTIdx (dVar 0) (dVar 1)) [1]))
def N__law_power : List Str := ["naming", "many", "found", "left", "here"]
noncomputable def c__law_power : DS := dSeq (dPar3 2 3 4 (zV (dRg1 .tup (dFun1 sLen (dPeek 0)))) (zV (dFun1 sAbs (dPeek 1))) (zV (dIf (dCmp .GtE (dPeek 1) (dC (.int 0))) (dVar 0) (dCall i__law_back (dCons (dVar 0) (dNil)))))) (dSeq (dWhile (dCmp .Gt (dPeek 3) (dC (.int 0))) (dSeq (dSet 2 (zV (dIf (dCmp .Eq (dBin .Mod (dPeek 3) (dC (.int 2))) (dC (.int 1))) (dCall i__law_then (dCons (dVar 2) (dCons (dVar 4) (dNil)))) (dVar 2)))) (dPar2 4 3 (zV (dCall i__law_then (dCons (dVar 4) (dCons (dVar 4) (dNil))))) (zV (dBin .FloorDiv (dPeek 3) (dC (.int 2))))))) (dRet (dVar 2)))
def N__law_hangs : List Str := ["right", "up", "seen", "path", "here", "late"]
noncomputable def c__law_hangs : DS := dSeq (dPar2 2 3 (zO (dDisp [(dC (.int 0), dC (.bl true))])) (zO (dLst (dCons (dC (.int 0)) (dNil))))) (dSeq (dWhile (dCmp .NotEq (dPeek 3) (dLst (dNil))) (dSeq (dSetM 4 (dPop 3)) (dFor (dIt (dLst (dCons (dIx (dPeek 0) (dPeek 4)) (dCons (dIx (dPeek 1) (dPeek 4)) (dNil))))) (.n 5) (dIfS (dCmp .NotIn (dPeek 5) (dPeek 2)) (dSeq (dSetItem 2 (dVar 5) (zV (dC (.bl true)))) (dApp 3 (mV (dVar 5)))) (dNop))))) (dRet (dBl (dCmp .Eq (dFun1 sLen (dPeek 2)) (dFun1 sLen (dPeek 0))))))
def N__law_renamed : List Str := ["surface", "names", "back", "naming", "square"]
noncomputable def c__law_renamed : DS := dSeq (dSet 2 (zV (dCall i__law_back (dCons (dVar 1) (dNil))))) (dRet (dFun1 sTuple (dLc (dIt (dPeek 0)) (.n 3) (fun _ _ => M.pure true) (dFun1 sTuple (dLc (dIt (dPeek 2)) (.n 4) (fun _ _ => M.pure true) (dIx (dPeek 1) (dIx (dPeek 3) (dPeek 4))) [4])) [3])))
def N__law_walk : List Str := ["surface", "square", "names", "path", "at", "late", "one"]
noncomputable def c__law_walk : DS := dSeq (dPar2 2 3 (zO (dDisp [(dVar 1, dC (.int 0))])) (zO (dLst (dCons (dVar 1) (dNil))))) (dSeq (dFor (dRng1 (dFun1 sLen (dIx (dPeek 0) (dC (.int 0))))) (.n 4) (dFor (dIt (dLst (dCons (dIx (dIx (dPeek 0) (dC (.int 0))) (dIx (dPeek 3) (dPeek 4))) (dCons (dIx (dIx (dPeek 0) (dC (.int 1))) (dIx (dPeek 3) (dPeek 4))) (dNil))))) (.n 5) (dIfS (dCmp .NotIn (dPeek 5) (dPeek 2)) (dSeq (dSetItem 2 (dVar 5) (zV (dFun1 sLen (dPeek 3)))) (dApp 3 (mV (dVar 5)))) (dNop)))) (dRet (dFun1 sTuple (dLc (dRng1 (dFun1 sLen (dPeek 3))) (.n 6) (fun _ _ => M.pure true) (dIx (dPeek 2) (dPeek 6)) [6]))))
def N__law_renamings : List Str := ["one", "other", "walk", "every", "square", "names"]
noncomputable def c__law_renamings : DS := dSeq (dIfS (dCmp .NotEq (dFun1 sLen (dIx (dPeek 0) (dC (.int 0)))) (dFun1 sLen (dIx (dPeek 1) (dC (.int 0))))) (dRet (dLst (dNil))) (dNop)) (dSeq (dSet 2 (zV (dCall i__law_walk (dCons (dVar 0) (dCons (dC (.int 0)) (dNil)))))) (dSeq (dSet 3 (zV (dLc (dRng1 (dFun1 sLen (dIx (dPeek 1) (dC (.int 0))))) (.n 4) (fun _ _ => M.pure true) (dCall i__law_then (dCons (dVar 2) (dCons (dCall i__law_back (dCons (dCall i__law_walk (dCons (dVar 1) (dCons (dVar 4) (dNil)))) (dNil))) (dNil)))) [4]))) (dRet (dFun1 sSorted (dLc (dIt (dPeek 3)) (.n 5) (dCmp .Eq (dCall i__law_renamed (dCons (dVar 0) (dCons (dVar 5) (dNil)))) (dPeek 1)) (dVar 5) [5])))))
def N__law_sheared : List Str := ["surface", "many"]
noncomputable def c__law_sheared : DS := dRet (dTup (dCons (dIx (dPeek 0) (dC (.int 0))) (dCons (dCall i__law_then (dCons (dIx (dPeek 0) (dC (.int 1))) (dCons (dCall i__law_power (dCons (dIx (dPeek 0) (dC (.int 0))) (dCons (dBin .Sub (dC (.int 0)) (dPeek 1)) (dNil)))) (dNil)))) (dNil))))
def N__law_turned : List Str := ["surface", "many", "here", "lap"]
noncomputable def c__law_turned : DS := dSeq (dSet 2 (zV (dVar 0))) (dSeq (dFor (dRng1 (dBin .Mod (dFun1 sInt (dPeek 1)) (dC (.int 4)))) (.n 3) (dSet 2 (zV (dTup (dCons (dCall i__law_back (dCons (dIx (dPeek 2) (dC (.int 1))) (dNil))) (dCons (dIx (dPeek 2) (dC (.int 0))) (dNil))))))) (dRet (dVar 2)))
def N__law_moved : List Str := ["surface", "row", "here", "word", "many"]
noncomputable def c__law_moved : DS := dSeq (dSet 2 (zV (dVar 0))) (dSeq (dFor (dIt (dVar 1)) (.t [.n 3, .n 4]) (dSet 2 (zV (dIf (dCmp .Eq (dPeek 3) (dC (.str "shear"))) (dCall i__law_sheared (dCons (dVar 2) (dCons (dVar 4) (dNil)))) (dCall i__law_turned (dCons (dVar 2) (dCons (dVar 4) (dNil)))))))) (dRet (dVar 2)))
def N__law_naming : List Str := ["draw", "many"]
noncomputable def c__law_naming : DS := dRet (dFun1 sTuple (dCall i__law_shuffled (dCons (dVar 0) (dCons (dRg1 .lst (dVar 1)) (dNil)))))
def N__law_surface : List Str := ["draw", "most", "many", "lap", "right", "own", "six", "some", "found"]
noncomputable def c__law_surface : DS := dSeq (dSet 2 (zV (dIf (dCmp .Eq (dCall i__law_take (dCons (dVar 0) (dCons (dC (.int 3)) (dNil)))) (dC (.int 0))) (dBin .Add (dC (.int 1)) (dCall i__law_take (dCons (dVar 0) (dCons (dVar 1) (dNil))))) (dBin .Sub (dPeek 1) (dCall i__law_take (dCons (dVar 0) (dCons (dFun2 sMin2 (dC (.int 2)) (dPeek 1)) (dNil)))))))) (dSeq (dIfS (dAnd (dCmp .Gt (dPeek 2) (dC (.int 4))) (dCmp .Eq (dCall i__law_take (dCons (dVar 0) (dCons (dC (.int 12)) (dNil)))) (dC (.int 0)))) (dSeq (dSet 5 (zV (dLst (dCons (dTup (dCons (dTup (dCons (dC (.int 1)) (dCons (dC (.int 2)) (dCons (dC (.int 3)) (dCons (dC (.int 4)) (dCons (dC (.int 0)) (dNil))))))) (dCons (dTup (dCons (dC (.int 0)) (dCons (dC (.int 2)) (dCons (dC (.int 4)) (dCons (dC (.int 1)) (dCons (dC (.int 3)) (dNil))))))) (dNil)))) (dCons (dTup (dCons (dTup (dCons (dC (.int 1)) (dCons (dC (.int 2)) (dCons (dC (.int 3)) (dCons (dC (.int 4)) (dCons (dC (.int 0)) (dNil))))))) (dCons (dTup (dCons (dC (.int 0)) (dCons (dC (.int 2)) (dCons (dC (.int 1)) (dCons (dC (.int 4)) (dCons (dC (.int 3)) (dNil))))))) (dNil)))) (dNil)))))) (dSeq (dSet 6 (zV (dLst (dCons (dTup (dCons (dTup (dCons (dC (.int 1)) (dCons (dC (.int 2)) (dCons (dC (.int 3)) (dCons (dC (.int 4)) (dCons (dC (.int 5)) (dCons (dC (.int 0)) (dNil)))))))) (dCons (dTup (dCons (dC (.int 2)) (dCons (dC (.int 4)) (dCons (dC (.int 3)) (dCons (dC (.int 5)) (dCons (dC (.int 1)) (dCons (dC (.int 0)) (dNil)))))))) (dNil)))) (dCons (dTup (dCons (dTup (dCons (dC (.int 1)) (dCons (dC (.int 2)) (dCons (dC (.int 3)) (dCons (dC (.int 4)) (dCons (dC (.int 5)) (dCons (dC (.int 0)) (dNil)))))))) (dCons (dTup (dCons (dC (.int 3)) (dCons (dC (.int 5)) (dCons (dC (.int 4)) (dCons (dC (.int 0)) (dCons (dC (.int 2)) (dCons (dC (.int 1)) (dNil)))))))) (dNil)))) (dNil)))))) (dSeq (dSet 7 (zV (dCall i__law_pick (dCons (dVar 0) (dCons (dIf (dCmp .Eq (dPeek 2) (dC (.int 5))) (dVar 5) (dVar 6)) (dNil)))))) (dRet (dCall i__law_renamed (dCons (dVar 7) (dCons (dCall i__law_naming (dCons (dVar 0) (dCons (dVar 2) (dNil)))) (dNil)))))))) (dNop)) (dSeq (dFor (dRng1 (dC (.int 8))) (.n 3) (dSeq (dSet 8 (zV (dTup (dCons (dCall i__law_naming (dCons (dVar 0) (dCons (dVar 2) (dNil)))) (dCons (dCall i__law_naming (dCons (dVar 0) (dCons (dVar 2) (dNil)))) (dNil)))))) (dIfS (dTst (dCall i__law_hangs (dCons (dIx (dPeek 8) (dC (.int 0))) (dCons (dIx (dPeek 8) (dC (.int 1))) (dNil))))) (dRet (dVar 8)) (dNop)))) (dSeq (dSet 4 (zV (dFun1 sTuple (dBin .Add (dRg2 .lst (dC (.int 1)) (dVar 2)) (dLst (dCons (dC (.int 0)) (dNil))))))) (dRet (dCall i__law_renamed (dCons (dTup (dCons (dVar 4) (dCons (dCall i__law_naming (dCons (dVar 0) (dCons (dVar 2) (dNil)))) (dNil)))) (dCons (dCall i__law_naming (dCons (dVar 0) (dCons (dVar 2) (dNil)))) (dNil))))))))
def N__law_small_row : List Str := ["draw", "most", "lap"]
noncomputable def c__law_small_row : DS := dRet (dFun1 sTuple (dLc (dRng1 (dCall i__law_take (dCons (dVar 0) (dCons (dBin .Add (dPeek 1) (dC (.int 1))) (dNil))))) (.n 2) (fun _ _ => M.pure true) (dCall i__law_pick (dCons (dVar 0) (dCons (dLst (dCons (dTup (dCons (dC (.str "shear")) (dCons (dC (.int 1)) (dNil)))) (dCons (dTup (dCons (dC (.str "shear")) (dCons (dNeg (dC (.int 1))) (dNil)))) (dCons (dTup (dCons (dC (.str "turn")) (dCons (dC (.int 1)) (dNil)))) (dNil))))) (dNil)))) [2]))
def N__law_no_surface : List Str := ["draw", "some"]
noncomputable def c__law_no_surface : DS := dSeq (dSet 1 (zV (dLst (dCons (dC .non) (dCons (dC (.int 0)) (dCons (dTup (dNil)) (dCons (dTup (dCons (dTup (dCons (dC (.int 0)) (dNil))) (dNil))) (dCons (dTup (dCons (dTup (dCons (dC (.int 0)) (dCons (dC (.int 1)) (dNil)))) (dCons (dTup (dCons (dC (.int 0)) (dCons (dC (.int 1)) (dNil)))) (dNil)))) (dCons (dTup (dCons (dTup (dCons (dC (.int 1)) (dCons (dC (.int 0)) (dNil)))) (dCons (dTup (dCons (dC (.int 0)) (dNil))) (dNil)))) (dCons (dLst (dCons (dTup (dCons (dC (.int 0)) (dNil))) (dCons (dTup (dCons (dC (.int 0)) (dNil))) (dNil)))) (dCons (dTup (dCons (dTup (dCons (dC (.int 0)) (dNil))) (dCons (dLst (dCons (dC (.int 0)) (dNil))) (dNil)))) (dCons (dTup (dCons (dTup (dCons (dC (.int 0)) (dCons (dC (.int 0)) (dNil)))) (dCons (dTup (dCons (dC (.int 1)) (dCons (dC (.int 0)) (dNil)))) (dNil)))) (dCons (dTup (dCons (dTup (dCons (dC (.int 1)) (dCons (dC (.int 2)) (dNil)))) (dCons (dTup (dCons (dC (.int 1)) (dCons (dC (.int 2)) (dNil)))) (dNil)))) (dCons (dTup (dCons (dTup (dCons (dC (.bl true)) (dNil))) (dCons (dTup (dCons (dC (.int 0)) (dNil))) (dNil)))) (dCons (dC (.str "00")) (dNil)))))))))))))))) (dRet (dCall i__law_pick (dCons (dVar 0) (dCons (dBin .Add (dPeek 1) (dLst (dCons (dTup (dCons (dFun1 sTuple (dLst (dCons (dC (.int 1)) (dCons (dC (.int 2)) (dCons (dC (.int 3)) (dCons (dC (.int 4)) (dCons (dC (.int 5)) (dCons (dC (.int 6)) (dCons (dC (.int 0)) (dNil)))))))))) (dCons (dRg1 .tup (dC (.int 7))) (dNil)))) (dCons (dTup (dCons (dTup (dNil)) (dCons (dTup (dNil)) (dNil)))) (dCons (dTup (dCons (dTup (dCons (dC (.int 0)) (dNil))) (dCons (dTup (dCons (dC (.int 0)) (dNil))) (dCons (dTup (dCons (dC (.int 0)) (dNil))) (dNil))))) (dNil)))))) (dNil)))))
def N__law_halves : List Str := ["surface", "naming"]
noncomputable def c__law_halves : DS := dRet (dCall i__law_renamings (dCons (dVar 0) (dCons (dFun1 sTuple (dLc (dIt (dPeek 0)) (.n 1) (fun _ _ => M.pure true) (dCall i__law_back (dCons (dVar 1) (dNil))) [1])) (dNil))))
def N__law_namings : List Str := ["many", "found", "lap", "line", "item"]
noncomputable def c__law_namings : DS := dSeq (dSet 1 (zV (dLst (dCons (dTup (dNil)) (dNil))))) (dSeq (dFor (dRng1 (dVar 0)) (.n 2) (dSet 1 (zV (dFun2 sSumL (dLc (dIt (dPeek 1)) (.n 3) (fun _ _ => M.pure true) (dLc (dRng1 (dVar 0)) (.n 4) (dCmp .NotIn (dPeek 4) (dPeek 3)) (dBin .Add (dPeek 3) (dTup (dCons (dVar 4) (dNil)))) [4]) [3]) (dLst (dNil)))))) (dRet (dVar 1)))
def N__law_right : List Str := ["draw", "surface", "due", "still", "late", "names", "moved", "goal", "one", "naming", "other"]
noncomputable def c__law_right : DS := dSeq (dSet 1 (zV (dCall i__law_surface (dCons (dVar 0) (dCons (dCall i__law_pick (dCons (dVar 0) (dCons (dLst (dCons (dC (.int 3)) (dCons (dC (.int 4)) (dCons (dC (.int 5)) (dCons (dC (.int 6)) (dNil)))))) (dNil)))) (dNil)))))) (dSeq (dPar2 2 3 (zV (dFun1 sTuple (dCall i__law_halves (dCons (dVar 1) (dNil))))) (zV (dCall i__law_renamings (dCons (dVar 1) (dCons (dVar 1) (dNil)))))) (dSeq (dIfS (dOr (dNot (dTst (dCall i__law_says (dCons (dLst (dCons (dCall i_half_turns (dCons (dVar 1) (dNil))) (dCons (dCall i_half_turns (dPerm [0] (dCons (dVar 1) (dNil)))) (dNil)))) (dCons (dLst (dCons (dVar 2) (dCons (dVar 2) (dNil)))) (dNil)))))) (dCmp .NotIn (dFun1 sLen (dPeek 2)) (dLst (dCons (dC (.int 0)) (dCons (dFun1 sLen (dPeek 3)) (dNil)))))) (dRet (dC (.bl false))) (dNop)) (dSeq (dIfS (dCmp .Lt (dFun1 sLen (dIx (dPeek 1) (dC (.int 0)))) (dC (.int 5))) (dSeq (dSet 7 (zV (dFun1 sTuple (dLc (dIt (dPeek 1)) (.n 9) (fun _ _ => M.pure true) (dCall i__law_back (dCons (dVar 9) (dNil))) [9])))) (dIfS (dCmp .NotEq (dFun1 sList (dPeek 2)) (dLc (dIt (dCall i__law_namings (dCons (dFun1 sLen (dIx (dPeek 1) (dC (.int 0)))) (dNil)))) (.n 5) (dCmp .Eq (dCall i__law_renamed (dCons (dVar 1) (dCons (dVar 5) (dNil)))) (dPeek 7)) (dVar 5) [5])) (dRet (dC (.bl false))) (dNop))) (dNop)) (dSeq (dIfS (dCmp .NotEq (dLc (dIt (dPeek 2)) (.n 8) (dCmp .NotEq (dLc (dIt (dPeek 2)) (.n 10) (dCmp .NotIn (dCall i__law_then (dCons (dVar 8) (dCons (dVar 10) (dNil)))) (dPeek 3)) (dVar 10) [10]) (dLst (dNil))) (dVar 8) [8]) (dLst (dNil))) (dRet (dC (.bl false))) (dNop)) (dSeq (dPar2 4 5 (zV (dCall i__law_moved (dCons (dVar 1) (dCons (dCall i__law_small_row (dCons (dVar 0) (dCons (dC (.int 5)) (dNil)))) (dNil))))) (zV (dCall i__law_naming (dCons (dVar 0) (dCons (dFun1 sLen (dIx (dPeek 1) (dC (.int 0)))) (dNil)))))) (dSeq (dIfS (dCmp .NotEq (dFun1 sLen (dCall i_half_turns (dCons (dVar 4) (dNil)))) (dFun1 sLen (dPeek 2))) (dRet (dC (.bl false))) (dNop)) (dSeq (dSet 6 (zV (dFun1 sSorted (dLc (dIt (dPeek 2)) (.n 9) (fun _ _ => M.pure true) (dCall i__law_then (dCons (dCall i__law_then (dCons (dCall i__law_back (dCons (dVar 5) (dNil))) (dCons (dVar 9) (dNil)))) (dCons (dVar 5) (dNil)))) [9])))) (dRet (dAndV (dBl (dCmp .Eq (dFun1 sList (dCall i_half_turns (dCons (dCall i__law_renamed (dCons (dVar 1) (dCons (dVar 5) (dNil)))) (dNil)))) (dPeek 6))) (dFun1 (sIsC [x_BadSurface]) (dCaught (dCall i_half_turns (dCons (dCall i__law_no_surface (dCons (dVar 0) (dNil))) (dNil))))))))))))))
def lamQ : Str := "_law_right.<locals>.<lambda>"
structure Wd (P : Program) (w : World) (K : PySem.W.Frag) (mg : Str → Option Value) (base : Heap) (S : Sta) (k : Nat) (C : Ctx) : Prop where
  f_is_number : FnFact P w K mg base S k i_is_number "is_number" ["thing"] (C.call i_is_number)
  f_is_naming : FnFact P w K mg base S k i_is_naming "is_naming" ["many", "thing"] (C.call i_is_naming)
  f_then_by : FnFact P w K mg base S k i_then_by "then_by" ["one", "other"] (C.call i_then_by)
  f_back_by : FnFact P w K mg base S k i_back_by "back_by" ["naming"] (C.call i_back_by)
  f_reached : FnFact P w K mg base S k i_reached "reached" ["right", "up"] (C.call i_reached)
  f_is_surface_of : FnFact P w K mg base S k i_is_surface_of "is_surface_of" ["thing"] (C.call i_is_surface_of)
  f_need_surface : FnFact P w K mg base S k i_need_surface "need_surface" ["surface"] (C.call i_need_surface)
  f_renamed_by : FnFact P w K mg base S k i_renamed_by "renamed_by" ["surface", "names"] (C.call i_renamed_by)
  f_walk_by : FnFact P w K mg base S k i_walk_by "walk_by" ["surface", "square"] (C.call i_walk_by)
  f_renamings_by : FnFact P w K mg base S k i_renamings_by "renamings_by" ["one", "other"] (C.call i_renamings_by)
  f_turned_by : FnFact P w K mg base S k i_turned_by "turned_by" ["surface", "many"] (C.call i_turned_by)
  f_half_by : FnFact P w K mg base S k i_half_by "half_by" ["surface"] (C.call i_half_by)
  f_half_turns : FnFact P w K mg base S k i_half_turns "half_turns" ["surface"] (C.call i_half_turns)
  f__law_mixed : FnFact P w K mg base S k i__law_mixed "_law_mixed" ["draw"] (C.call i__law_mixed)
  f__law_take : FnFact P w K mg base S k i__law_take "_law_take" ["draw", "amount"] (C.call i__law_take)
  f__law_pick : FnFact P w K mg base S k i__law_pick "_law_pick" ["draw", "some"] (C.call i__law_pick)
  f__law_shuffled : FnFact P w K mg base S k i__law_shuffled "_law_shuffled" ["draw", "some"] (C.call i__law_shuffled)
  f__law_kinds : FnFact P w K mg base S k i__law_kinds "_law_kinds" ["thing"] (C.call i__law_kinds)
  f__law_says : FnFact P w K mg base S k i__law_says "_law_says" ["told", "due"] (C.call i__law_says)
  f__law_then : FnFact P w K mg base S k i__law_then "_law_then" ["one", "other"] (C.call i__law_then)
  f__law_back : FnFact P w K mg base S k i__law_back "_law_back" ["one"] (C.call i__law_back)
  f__law_power : FnFact P w K mg base S k i__law_power "_law_power" ["naming", "many"] (C.call i__law_power)
  f__law_hangs : FnFact P w K mg base S k i__law_hangs "_law_hangs" ["right", "up"] (C.call i__law_hangs)
  f__law_renamed : FnFact P w K mg base S k i__law_renamed "_law_renamed" ["surface", "names"] (C.call i__law_renamed)
  f__law_walk : FnFact P w K mg base S k i__law_walk "_law_walk" ["surface", "square"] (C.call i__law_walk)
  f__law_renamings : FnFact P w K mg base S k i__law_renamings "_law_renamings" ["one", "other"] (C.call i__law_renamings)
  f__law_sheared : FnFact P w K mg base S k i__law_sheared "_law_sheared" ["surface", "many"] (C.call i__law_sheared)
  f__law_turned : FnFact P w K mg base S k i__law_turned "_law_turned" ["surface", "many"] (C.call i__law_turned)
  f__law_moved : FnFact P w K mg base S k i__law_moved "_law_moved" ["surface", "row"] (C.call i__law_moved)
  f__law_naming : FnFact P w K mg base S k i__law_naming "_law_naming" ["draw", "many"] (C.call i__law_naming)
  f__law_surface : FnFact P w K mg base S k i__law_surface "_law_surface" ["draw", "most"] (C.call i__law_surface)
  f__law_small_row : FnFact P w K mg base S k i__law_small_row "_law_small_row" ["draw", "most"] (C.call i__law_small_row)
  f__law_no_surface : FnFact P w K mg base S k i__law_no_surface "_law_no_surface" ["draw"] (C.call i__law_no_surface)
  f__law_halves : FnFact P w K mg base S k i__law_halves "_law_halves" ["surface"] (C.call i__law_halves)
  f__law_namings : FnFact P w K mg base S k i__law_namings "_law_namings" ["many"] (C.call i__law_namings)
  f__law_right : FnFact P w K mg base S k i__law_right "_law_right" ["draw"] (C.call i__law_right)
  b_abs : mg "abs" = none
  b_all : mg "all" = none
  b_bool : mg "bool" = none
  b_dict : mg "dict" = none
  b_enumerate : mg "enumerate" = none
  b_int : mg "int" = none
  b_isinstance : mg "isinstance" = none
  b_len : mg "len" = none
  b_list : mg "list" = none
  b_min : mg "min" = none
  b_range : mg "range" = none
  b_sorted : mg "sorted" = none
  b_sum : mg "sum" = none
  b_tuple : mg "tuple" = none
  k_MOST_SQUARES : ∃ t, mg "MOST_SQUARES" = some (.int 6 t)
  cl : clsOk clL K = true
  hcls : S.cls = clsAt clL K
  g_BadSurface : mg "BadSurface" = some (.ref (He.ga K "BadSurface"))
  g_SquareError : mg "SquareError" = some (.ref (He.ga K "SquareError"))
  g__law_caught : mg "_law_caught" = some (.ref (He.ga K "_law_caught"))
  TB : LamX.TabB base mg (He.cT K ("_law_right", none)).1 (He.cT K ("_law_right", none)).2
  hmT : ((He.cT K ("_law_right", none)).2, lamQ) ∈ S.tabs
  hmU : ∀ z ∈ S.tabs, z.1 = (He.cT K ("_law_right", none)).2 → z.2 = lamQ
  caught : ∃ fd, FunD K "_law_caught" "_law_caught" (defArgs (top 27)) (defBody (top 27)) (defScope (top 27)) [] [] (He.ga K "_law_caught") fd
  kw_half_turns_surface : FnKw P w K mg base S k i_half_turns "half_turns" ["surface"] ["surface"] [0] (C.call i_half_turns)
section
variable {P : Program} {w : World} {K : PySem.W.Frag} {mg : Str → Option Value} {base : Heap} {S : Sta} {k : Nat} {C : Ctx}
abbrev cxI (P : Program) (w : World) (K : PySem.W.Frag) (mg : Str → Option Value) (base : Heap) (N : List Str) (x : Str) (i : Nat) (f : Addr) (cdv : Value) (A : Around) (outer : List Env) (s : Shared) (H : Hp) (E : XK) : Cx := cxOf (L2.CX P w) P w K mg base N x (defScope (top i)) f cdv A outer s H E
theorem scC : FnScope NC ["work"] (defScope (top 27)) := ⟨rfl, rfl, rfl, by decide +kernel, rfl, by decide +kernel, by decide +kernel⟩
theorem p_is_number (W : Wd P w K mg base S k C) (hK : K = S.K) {f : Addr} {cdv : Value} {A : Around} {outer : List Env} {s : Shared} {H : Hp} {E : XK} (hr2 : Room (k + 2) (A.deeper (envOfC "is_number" (defScope (top 5)) s.heap.objs.size f cdv))) : PSs (cxI P w K mg base N_is_number "is_number" 5 f cdv A outer s H E) (defBody (top 5)) (rdS S C E c_is_number) := by
  have hr := hr2.mono (Nat.le_add_right k 2)
  have hu := hu_of hr
  have hN : N_is_number.Nodup := by decide +kernel
  have tk : Takes (cxI P w K mg base N_is_number "is_number" 5 f cdv A outer s H E) (fun cls d _ H => E cls d H) := takes_cx
  have hp : PassesOwn (model P w) (cxI P w K mg base N_is_number "is_number" 5 f cdv A outer s H E).A (cxI P w K mg base N_is_number "is_number" 5 f cdv A outer s H E).env (cxI P w K mg base N_is_number "is_number" 5 f cdv A outer s H E).xe := owns_cx
  exact s_one (s_ret (e_and (e_isi (T := "int") hK (pe_callB (b_isi (by decide)) (by rfl) W.b_isinstance boot_isinstance (pa_cons (p_peek (pv 0)) (pa_cons (pe_bltn (v := .ty "int") (by rfl) W.b_int PyProof.Rows.boot_int (by rfl)) pa_nil)))) (pe_one (e_not (e_isi (T := "bool") hK (pe_callB (b_isi (by decide)) (by rfl) W.b_isinstance boot_isinstance (pa_cons (p_peek (pv 0)) (pa_cons (pe_bltn (v := .ty "bool") (by rfl) W.b_bool PyProof.Rows.boot_bool (by rfl)) pa_nil))))))))
theorem p_is_naming (W : Wd P w K mg base S k C) (hK : K = S.K) {f : Addr} {cdv : Value} {A : Around} {outer : List Env} {s : Shared} {H : Hp} {E : XK} (hr2 : Room (k + 2) (A.deeper (envOfC "is_naming" (defScope (top 6)) s.heap.objs.size f cdv))) : PSs (cxI P w K mg base N_is_naming "is_naming" 6 f cdv A outer s H E) (defBody (top 6)) (rdS S C E c_is_naming) := by
  have hr := hr2.mono (Nat.le_add_right k 2)
  have hu := hu_of hr
  have hN : N_is_naming.Nodup := by decide +kernel
  have tk : Takes (cxI P w K mg base N_is_naming "is_naming" 6 f cdv A outer s H E) (fun cls d _ H => E cls d H) := takes_cx
  have hp : PassesOwn (model P w) (cxI P w K mg base N_is_naming "is_naming" 6 f cdv A outer s H E).A (cxI P w K mg base N_is_naming "is_naming" 6 f cdv A outer s H E).env (cxI P w K mg base N_is_naming "is_naming" 6 f cdv A outer s H E).xe := owns_cx
  exact s_cons (s_if (PW.pt (w_or (t_not (t_val (e_isi (T := "tuple") hK (pe_callB (b_isi (by decide)) (by rfl) W.b_isinstance boot_isinstance (pa_cons (p_peek (pv 1)) (pa_cons (pe_bltn (v := .ty "tuple") (by rfl) W.b_tuple PyProof.Rows.boot_tuple (by rfl)) pa_nil)))) (by intro _; rfl))) (w_or (t_cmp hK hu (ePE (e_fun1 hK (pe_callB b_len (by rfl) W.b_len boot_len (pa_cons (p_peek (pv 1)) (pa_nil))))) (p_peek (pv 0)) (nobehind _ (by decide) (by decide))) (pw_or1 (t_not (t_val (e_fun1 hK (pe_callB (b_all (by rfl)) (by rfl) W.b_all boot_all (pa_cons (ePE (fE (f_lc (own := [("item", 2)]) hK (by rfl) hN (i_peek hK (p_peek (pv 1))) (blk_of (own := [("item", 2)]) (by kernel_rfl)) (by decide) (fun _ _ _ _ _ => g_name (pg_name hN (i := 2) (by rfl) (by first | exact .inl rfl | exact .inr rfl))) (fun _ _ _ _ _ => ts_nil) (fun _ _ _ _ _ => e_call hK W.f_is_number hr (by rfl) takes_F (a_cons (e_var (pv 2)) (a_nil) (by rfl)) (by rfl) (by rfl) (by rfl)) (by intro _; rfl)))) (pa_nil)))) (by intro _; rfl))))))) (s_one (s_ret (e_bl))) (s_nil)) (s_one (s_ret (e_cmp hK hu (ePE (fE (f_fun1 hK (pe_callB (b_sorted (by rfl) hu) (by rfl) W.b_sorted boot_sorted (pa_cons (p_peek (pv 1)) (pa_nil)))))) (ePE (fE (f_listRg1 hK (by rfl) (by rfl) W.b_list (by rfl) W.b_range (e_var (pv 0)) (by rfl) (by rfl)))) (nobehind _ (by decide) (by decide)))))
theorem p_then_by (W : Wd P w K mg base S k C) (hK : K = S.K) {f : Addr} {cdv : Value} {A : Around} {outer : List Env} {s : Shared} {H : Hp} {E : XK} (hr2 : Room (k + 2) (A.deeper (envOfC "then_by" (defScope (top 7)) s.heap.objs.size f cdv))) : PSs (cxI P w K mg base N_then_by "then_by" 7 f cdv A outer s H E) (defBody (top 7)) (rdS S C E c_then_by) := by
  have hr := hr2.mono (Nat.le_add_right k 2)
  have hu := hu_of hr
  have hN : N_then_by.Nodup := by decide +kernel
  have tk : Takes (cxI P w K mg base N_then_by "then_by" 7 f cdv A outer s H E) (fun cls d _ H => E cls d H) := takes_cx
  have hp : PassesOwn (model P w) (cxI P w K mg base N_then_by "then_by" 7 f cdv A outer s H E).A (cxI P w K mg base N_then_by "then_by" 7 f cdv A outer s H E).env (cxI P w K mg base N_then_by "then_by" 7 f cdv A outer s H E).xe := owns_cx
  exact s_one (s_ret (e_fun1 hK (pe_callTy b_tuple (by rfl) W.b_tuple boot_tuple (pa_cons (ePE (fE (f_lc (own := [("square", 2)]) hK (by rfl) hN (i_peek hK (p_peek (pv 0))) (blk_of (own := [("square", 2)]) (by kernel_rfl)) (by decide) (fun _ _ _ _ _ => g_name (pg_name hN (i := 2) (by rfl) (by first | exact .inl rfl | exact .inr rfl))) (fun _ _ _ _ _ => ts_nil) (fun _ _ _ _ _ => e_ix hK hu (p_peek (pv 1)) (p_peek (pv 2)) (by intro _ _; rfl)) (by intro _; rfl)))) (pa_nil)))))
theorem p_back_by (W : Wd P w K mg base S k C) (hK : K = S.K) {f : Addr} {cdv : Value} {A : Around} {outer : List Env} {s : Shared} {H : Hp} {E : XK} (hr2 : Room (k + 2) (A.deeper (envOfC "back_by" (defScope (top 8)) s.heap.objs.size f cdv))) : PSs (cxI P w K mg base N_back_by "back_by" 8 f cdv A outer s H E) (defBody (top 8)) (rdS S C E c_back_by) := by
  have hr := hr2.mono (Nat.le_add_right k 2)
  have hu := hu_of hr
  have hN : N_back_by.Nodup := by decide +kernel
  have tk : Takes (cxI P w K mg base N_back_by "back_by" 8 f cdv A outer s H E) (fun cls d _ H => E cls d H) := takes_cx
  have hp : PassesOwn (model P w) (cxI P w K mg base N_back_by "back_by" 8 f cdv A outer s H E).A (cxI P w K mg base N_back_by "back_by" 8 f cdv A outer s H E).env (cxI P w K mg base N_back_by "back_by" 8 f cdv A outer s H E).xe := owns_cx
  exact s_cons (s_setLc hK (by decide) (ps_setLc (by rfl) hN (i := 1) (by rfl) (by rfl) (by rfl) (i_peek hK (p_peek (pv 0))) (blk_of (own := [("square", 2)]) (by kernel_rfl)) (fun _ _ _ _ _ => g_name (pg_name hN (i := 2) (by rfl) (by first | exact .inl rfl | exact .inr rfl))) (fun _ _ _ _ _ => ts_nil) (fun _ _ _ _ _ => e_int))) (s_cons (s_for hp (by rfl) (i_enum hK (by rfl) W.b_enumerate (by rfl) (e_var (pv 0))) (g_tup hK (by rfl) (gs_cons (g_name (pg_name hN (i := 2) (by rfl) (by first | exact .inl rfl | exact .inr rfl))) (gs_cons (g_name (pg_name hN (i := 3) (by rfl) (by first | exact .inl rfl | exact .inr rfl))) (gs_nil) (by rfl)) (by rfl)) (by rfl) (by rfl) (by rfl)) (s_one (s_setItem hK (ps_asg (zE (e_var (pv 2))) (pg_sub (pv 1) (e_var (pv 3)) (set_D hu))))) (by intro _; rfl)) (s_one (s_ret (e_fun1 hK (pe_callTy b_tuple (by rfl) W.b_tuple boot_tuple (pa_cons (p_peek (pv 1)) (pa_nil)))))))
theorem p_reached (W : Wd P w K mg base S k C) (hK : K = S.K) {f : Addr} {cdv : Value} {A : Around} {outer : List Env} {s : Shared} {H : Hp} {E : XK} (hr2 : Room (k + 2) (A.deeper (envOfC "reached" (defScope (top 9)) s.heap.objs.size f cdv))) : PSs (cxI P w K mg base N_reached "reached" 9 f cdv A outer s H E) (defBody (top 9)) (rdS S C E c_reached) := by
  have hr := hr2.mono (Nat.le_add_right k 2)
  have hu := hu_of hr
  have hN : N_reached.Nodup := by decide +kernel
  have tk : Takes (cxI P w K mg base N_reached "reached" 9 f cdv A outer s H E) (fun cls d _ H => E cls d H) := takes_cx
  have hp : PassesOwn (model P w) (cxI P w K mg base N_reached "reached" 9 f cdv A outer s H E).A (cxI P w K mg base N_reached "reached" 9 f cdv A outer s H E).env (cxI P w K mg base N_reached "reached" 9 f cdv A outer s H E).xe := owns_cx
  exact s_cons (s_par2 (ps_par (by rfl) hN (by rfl) (by rfl) (by decide) (by rfl) (by rfl) (pa_cons (zF (f_disp (prs := [(dC (.int 0), dC (.bl true))]) hK hu (pps_cons (pe_pre (e_int)) (pe_pre (e_bl)) (pps_nil)) (by rfl) (by rfl) (by simp) (by decide) (by simp))) (pa_cons (zF (f_lst hK (a_cons (e_int) (a_nil) (by rfl)))) (pa_nil))) (by rfl))) (s_cons (s_while hp (t_cmp hK hu (p_peek (pv 3)) (ePE (fE (f_lst hK (a_nil)))) (nobehind _ (by decide) (by decide))) (s_cons (s_setM (ps_set hN (by rfl) (by first | exact .inl rfl | exact .inr rfl) (m_pop (pv 3) (by rfl) (by rfl)))) (s_one (s_for hp (by rfl) (i_val hK (e_tup hK (a_cons (e_ix hK hu (p_peek (pv 0)) (p_peek (pv 4)) (by intro _ _; rfl)) (a_cons (e_ix hK hu (p_peek (pv 1)) (p_peek (pv 4)) (by intro _ _; rfl)) (a_nil) (by rfl)) (by rfl)))) (g_name (pg_name hN (i := 5) (by rfl) (by first | exact .inl rfl | exact .inr rfl))) (s_one (s_if (t_cmp hK hu (p_peek (pv 5)) (p_peek (pv 2)) ((by rfl))) (s_cons (s_setItem hK (ps_asg (zE (e_bl)) (pg_sub (pv 2) (e_var (pv 5)) (set_D hu)))) (s_one (s_app (ps_expr (pe_bm F.plainAttrs_list F.slot_list_append F.type_list_append mt_append (pv 3) (pa_cons (m_of (e_var (pv 5))) pa_nil)))))) (s_nil))) (by intro _; rfl))))) (s_one (s_esc [2] (s_ret (e_var (pv 2))))))
theorem p_is_surface_of (W : Wd P w K mg base S k C) (hK : K = S.K) {f : Addr} {cdv : Value} {A : Around} {outer : List Env} {s : Shared} {H : Hp} {E : XK} (hr2 : Room (k + 2) (A.deeper (envOfC "is_surface_of" (defScope (top 10)) s.heap.objs.size f cdv))) : PSs (cxI P w K mg base N_is_surface_of "is_surface_of" 10 f cdv A outer s H E) (defBody (top 10)) (rdS S C E c_is_surface_of) := by
  have hr := hr2.mono (Nat.le_add_right k 2)
  have hu := hu_of hr
  have hN : N_is_surface_of.Nodup := by decide +kernel
  have tk : Takes (cxI P w K mg base N_is_surface_of "is_surface_of" 10 f cdv A outer s H E) (fun cls d _ H => E cls d H) := takes_cx
  have hp : PassesOwn (model P w) (cxI P w K mg base N_is_surface_of "is_surface_of" 10 f cdv A outer s H E).A (cxI P w K mg base N_is_surface_of "is_surface_of" 10 f cdv A outer s H E).env (cxI P w K mg base N_is_surface_of "is_surface_of" 10 f cdv A outer s H E).xe := owns_cx
  exact s_cons (s_if (PW.pt (w_or (t_not (t_val (e_isi (T := "tuple") hK (pe_callB (b_isi (by decide)) (by rfl) W.b_isinstance boot_isinstance (pa_cons (p_peek (pv 0)) (pa_cons (pe_bltn (v := .ty "tuple") (by rfl) W.b_tuple PyProof.Rows.boot_tuple (by rfl)) pa_nil)))) (by intro _; rfl))) (w_or (t_cmp hK hu (ePE (e_fun1 hK (pe_callB b_len (by rfl) W.b_len boot_len (pa_cons (p_peek (pv 0)) (pa_nil))))) (ePE (e_int)) (nobehind _ (by decide) (by decide))) (pw_or1 (t_not (t_val (e_isi (T := "tuple") hK (pe_callB (b_isi (by decide)) (by rfl) W.b_isinstance boot_isinstance (pa_cons (ePE (e_ix hK hu (p_peek (pv 0)) (ePE (e_int)) (by intro _ _; rfl))) (pa_cons (pe_bltn (v := .ty "tuple") (by rfl) W.b_tuple PyProof.Rows.boot_tuple (by rfl)) pa_nil)))) (by intro _; rfl))))))) (s_one (s_ret (e_bl))) (s_nil)) (s_cons (s_set (ps_set hN (by rfl) (by first | exact .inl rfl | exact .inr rfl) (zE (e_fun1 hK (pe_callB b_len (by rfl) W.b_len boot_len (pa_cons (ePE (e_ix hK hu (p_peek (pv 0)) (ePE (e_int)) (by intro _ _; rfl))) (pa_nil))))))) (s_cons (s_if (PW.pt (w_or (t_not (t_chain hK hu (ePE (e_int)) (p_peek (pv 1)) (ePE (e_gint W.k_MOST_SQUARES (by rfl) (by rfl))) (by rfl))) (w_or (t_not (t_val (e_call hK W.f_is_naming hr (by rfl) tk (a_cons (e_var (pv 1)) (a_cons (e_ix hK hu (p_peek (pv 0)) (ePE (e_int)) (by intro _ _; rfl)) (a_nil) (by rfl)) (by rfl)) (by rfl) (by rfl) (by rfl)) (by intro _; rfl))) (pw_or1 (t_not (t_val (e_call hK W.f_is_naming hr (by rfl) tk (a_cons (e_var (pv 1)) (a_cons (e_ix hK hu (p_peek (pv 0)) (ePE (e_int)) (by intro _ _; rfl)) (a_nil) (by rfl)) (by rfl)) (by rfl) (by rfl) (by rfl)) (by intro _; rfl))))))) (s_one (s_ret (e_bl))) (s_nil)) (s_one (s_ret (e_cmp hK hu (ePE (e_fun1 hK (pe_callB b_len (by rfl) W.b_len boot_len (pa_cons (ePE (e_call hK W.f_reached hr (by rfl) tk (a_cons (e_ix hK hu (p_peek (pv 0)) (ePE (e_int)) (by intro _ _; rfl)) (a_cons (e_ix hK hu (p_peek (pv 0)) (ePE (e_int)) (by intro _ _; rfl)) (a_nil) (by rfl)) (by rfl)) (by rfl) (by rfl) (by rfl))) (pa_nil))))) (p_peek (pv 1)) (nobehind _ (by decide) (by decide)))))))
theorem p_need_surface (W : Wd P w K mg base S k C) (hK : K = S.K) {f : Addr} {cdv : Value} {A : Around} {outer : List Env} {s : Shared} {H : Hp} {E : XK} (hr2 : Room (k + 2) (A.deeper (envOfC "need_surface" (defScope (top 11)) s.heap.objs.size f cdv))) : PSs (cxI P w K mg base N_need_surface "need_surface" 11 f cdv A outer s H E) (defBody (top 11)) (rdS S C E c_need_surface) := by
  have hr := hr2.mono (Nat.le_add_right k 2)
  have hu := hu_of hr
  have hN : N_need_surface.Nodup := by decide +kernel
  have tk : Takes (cxI P w K mg base N_need_surface "need_surface" 11 f cdv A outer s H E) (fun cls d _ H => E cls d H) := takes_cx
  have hp : PassesOwn (model P w) (cxI P w K mg base N_need_surface "need_surface" 11 f cdv A outer s H E).A (cxI P w K mg base N_need_surface "need_surface" 11 f cdv A outer s H E).env (cxI P w K mg base N_need_surface "need_surface" 11 f cdv A outer s H E).xe := owns_cx
  exact s_one (s_if (t_not (t_val (e_call hK W.f_is_surface_of hr (by rfl) tk (a_cons (e_var (pv 0)) (a_nil) (by rfl)) (by rfl) (by rfl) (by rfl)) (by intro _; rfl))) (s_one (s_raiseC (by rfl) tk W.cl W.hcls (by rfl) W.g_BadSurface (by rfl) (by rfl))) (s_nil))
theorem p_renamed_by (W : Wd P w K mg base S k C) (hK : K = S.K) {f : Addr} {cdv : Value} {A : Around} {outer : List Env} {s : Shared} {H : Hp} {E : XK} (hr2 : Room (k + 2) (A.deeper (envOfC "renamed_by" (defScope (top 12)) s.heap.objs.size f cdv))) : PSs (cxI P w K mg base N_renamed_by "renamed_by" 12 f cdv A outer s H E) (defBody (top 12)) (rdS S C E c_renamed_by) := by
  have hr := hr2.mono (Nat.le_add_right k 2)
  have hu := hu_of hr
  have hN : N_renamed_by.Nodup := by decide +kernel
  have tk : Takes (cxI P w K mg base N_renamed_by "renamed_by" 12 f cdv A outer s H E) (fun cls d _ H => E cls d H) := takes_cx
  have hp : PassesOwn (model P w) (cxI P w K mg base N_renamed_by "renamed_by" 12 f cdv A outer s H E).A (cxI P w K mg base N_renamed_by "renamed_by" 12 f cdv A outer s H E).env (cxI P w K mg base N_renamed_by "renamed_by" 12 f cdv A outer s H E).xe := owns_cx
  exact s_cons (s_set (ps_set hN (by rfl) (by first | exact .inl rfl | exact .inr rfl) (zE (e_call hK W.f_back_by hr (by rfl) tk (a_cons (e_var (pv 1)) (a_nil) (by rfl)) (by rfl) (by rfl) (by rfl))))) (s_one (s_ret (e_fun1 hK (pe_callTy b_tuple (by rfl) W.b_tuple boot_tuple (pa_cons (ePE (fE (f_lc (own := [("naming", 3)]) hK (by rfl) hN (i_peek hK (p_peek (pv 0))) (blk_of (own := [("naming", 3)]) (by kernel_rfl)) (by decide) (fun _ _ _ _ _ => g_name (pg_name hN (i := 3) (by rfl) (by first | exact .inl rfl | exact .inr rfl))) (fun _ _ _ _ _ => ts_nil) (fun _ _ _ _ _ => e_call hK W.f_then_by hr (by rfl) takes_F (a_cons (e_call hK W.f_then_by hr (by rfl) takes_F (a_cons (e_var (pv 2)) (a_cons (e_var (pv 3)) (a_nil) (by rfl)) (by rfl)) (by rfl) (by rfl) (by rfl)) (a_cons (e_var (pv 1)) (a_nil) (by rfl)) (by rfl)) (by rfl) (by rfl) (by rfl)) (by intro _; rfl)))) (pa_nil))))))
theorem p_walk_by (W : Wd P w K mg base S k C) (hK : K = S.K) {f : Addr} {cdv : Value} {A : Around} {outer : List Env} {s : Shared} {H : Hp} {E : XK} (hr2 : Room (k + 2) (A.deeper (envOfC "walk_by" (defScope (top 13)) s.heap.objs.size f cdv))) : PSs (cxI P w K mg base N_walk_by "walk_by" 13 f cdv A outer s H E) (defBody (top 13)) (rdS S C E c_walk_by) := by
  have hr := hr2.mono (Nat.le_add_right k 2)
  have hu := hu_of hr
  have hN : N_walk_by.Nodup := by decide +kernel
  have tk : Takes (cxI P w K mg base N_walk_by "walk_by" 13 f cdv A outer s H E) (fun cls d _ H => E cls d H) := takes_cx
  have hp : PassesOwn (model P w) (cxI P w K mg base N_walk_by "walk_by" 13 f cdv A outer s H E).A (cxI P w K mg base N_walk_by "walk_by" 13 f cdv A outer s H E).env (cxI P w K mg base N_walk_by "walk_by" 13 f cdv A outer s H E).xe := owns_cx
  exact s_cons (s_par2c hK (ps_asg (pe_tup (pa_cons (zF (f_disp (prs := [(dVar 1, dC (.int 0))]) hK hu (pps_cons (pe_pre (e_var (pv 1))) (pe_pre (e_int)) (pps_nil)) (by rfl) (by rfl) (by simp) (by decide) (by simp))) (pa_cons (zF (f_lst hK (a_cons (e_var (pv 1)) (a_nil) (by rfl)))) (pa_nil)))) (pg_tup (by rfl) (pgs_cons (pg_name hN (i := 2) (by rfl) (by first | exact .inl rfl | exact .inr rfl)) (pgs_cons (pg_name hN (i := 3) (by rfl) (by first | exact .inl rfl | exact .inr rfl)) (pgs_nil)))))) (s_cons (s_for hp (by rfl) (i_rng1 hK (by rfl) W.b_range (by rfl) (e_fun1 hK (pe_callB b_len (by rfl) W.b_len boot_len (pa_cons (ePE (e_ix hK hu (p_peek (pv 0)) (ePE (e_int)) (by intro _ _; rfl))) (pa_nil))))) (g_name (pg_name hN (i := 4) (by rfl) (by first | exact .inl rfl | exact .inr rfl))) (s_one (s_for hp (by rfl) (i_val hK (e_var (pv 0))) (g_name (pg_name hN (i := 5) (by rfl) (by first | exact .inl rfl | exact .inr rfl))) (s_cons (s_set (ps_set hN (by rfl) (by first | exact .inl rfl | exact .inr rfl) (zE (e_ix hK hu (p_peek (pv 5)) (ePE (e_ix hK hu (p_peek (pv 3)) (p_peek (pv 4)) (by intro _ _; rfl))) (by intro _ _; rfl))))) (s_one (s_if (t_cmp hK hu (p_peek (pv 6)) (p_peek (pv 2)) ((by rfl))) (s_cons (s_setItem hK (ps_asg (zE (e_fun1 hK (pe_callB b_len (by rfl) W.b_len boot_len (pa_cons (p_peek (pv 3)) (pa_nil))))) (pg_sub (pv 2) (e_var (pv 6)) (set_D hu)))) (s_one (s_app (ps_expr (pe_bm F.plainAttrs_list F.slot_list_append F.type_list_append mt_append (pv 3) (pa_cons (m_of (e_var (pv 6))) pa_nil)))))) (s_nil)))) (by intro _; rfl))) (by intro _; rfl)) (s_one (s_ret (e_fun1 hK (pe_callTy b_tuple (by rfl) W.b_tuple boot_tuple (pa_cons (ePE (fE (f_lc (own := [("one", 7)]) hK (by rfl) hN (i_weak (i_rng1 hK (by rfl) W.b_range (by rfl) (e_fun1 hK (pe_callB b_len (by rfl) W.b_len boot_len (pa_cons (p_peek (pv 3)) (pa_nil)))))) (blk_of (own := [("one", 7)]) (by kernel_rfl)) (by decide) (fun _ _ _ _ _ => g_name (pg_name hN (i := 7) (by rfl) (by first | exact .inl rfl | exact .inr rfl))) (fun _ _ _ _ _ => ts_nil) (fun _ _ _ _ _ => e_ix hK hu (p_peek (pv 2)) (p_peek (pv 7)) (by intro _ _; rfl)) (by intro _; rfl)))) (pa_nil)))))))
theorem p_renamings_by (W : Wd P w K mg base S k C) (hK : K = S.K) {f : Addr} {cdv : Value} {A : Around} {outer : List Env} {s : Shared} {H : Hp} {E : XK} (hr2 : Room (k + 2) (A.deeper (envOfC "renamings_by" (defScope (top 15)) s.heap.objs.size f cdv))) : PSs (cxI P w K mg base N_renamings_by "renamings_by" 15 f cdv A outer s H E) (defBody (top 15)) (rdS S C E c_renamings_by) := by
  have hr := hr2.mono (Nat.le_add_right k 2)
  have hu := hu_of hr
  have hN : N_renamings_by.Nodup := by decide +kernel
  have tk : Takes (cxI P w K mg base N_renamings_by "renamings_by" 15 f cdv A outer s H E) (fun cls d _ H => E cls d H) := takes_cx
  have hp : PassesOwn (model P w) (cxI P w K mg base N_renamings_by "renamings_by" 15 f cdv A outer s H E).A (cxI P w K mg base N_renamings_by "renamings_by" 15 f cdv A outer s H E).env (cxI P w K mg base N_renamings_by "renamings_by" 15 f cdv A outer s H E).xe := owns_cx
  exact s_cons (s_if (t_cmp hK hu (ePE (e_fun1 hK (pe_callB b_len (by rfl) W.b_len boot_len (pa_cons (ePE (e_ix hK hu (p_peek (pv 0)) (ePE (e_int)) (by intro _ _; rfl))) (pa_nil))))) (ePE (e_fun1 hK (pe_callB b_len (by rfl) W.b_len boot_len (pa_cons (ePE (e_ix hK hu (p_peek (pv 1)) (ePE (e_int)) (by intro _ _; rfl))) (pa_nil))))) (nobehind _ (by decide) (by decide))) (s_one (s_ret (fE (f_lst hK (a_nil))))) (s_nil)) (s_cons (s_set (ps_set hN (by rfl) (by first | exact .inl rfl | exact .inr rfl) (zE (e_call hK W.f_walk_by hr (by rfl) tk (a_cons (e_var (pv 0)) (a_cons (e_int) (a_nil) (by rfl)) (by rfl)) (by rfl) (by rfl) (by rfl))))) (s_cons (s_setLcV hK (by decide) (ps_setLc (by rfl) hN (i := 3) (by rfl) (by rfl) (by rfl) (i_weak (i_rng1 hK (by rfl) W.b_range (by rfl) (e_fun1 hK (pe_callB b_len (by rfl) W.b_len boot_len (pa_cons (ePE (e_ix hK hu (p_peek (pv 1)) (ePE (e_int)) (by intro _ _; rfl))) (pa_nil)))))) (blk_of (own := [("square", 4)]) (by kernel_rfl)) (fun _ _ _ _ _ => g_name (pg_name hN (i := 4) (by rfl) (by first | exact .inl rfl | exact .inr rfl))) (fun _ _ _ _ _ => ts_nil) (fun _ _ _ _ _ => e_call hK W.f_then_by hr (by rfl) takes_F (a_cons (e_var (pv 2)) (a_cons (e_call hK W.f_back_by hr (by rfl) takes_F (a_cons (e_call hK W.f_walk_by hr (by rfl) takes_F (a_cons (e_var (pv 1)) (a_cons (e_var (pv 4)) (a_nil) (by rfl)) (by rfl)) (by rfl) (by rfl) (by rfl)) (a_nil) (by rfl)) (by rfl) (by rfl) (by rfl)) (a_nil) (by rfl)) (by rfl)) (by rfl) (by rfl) (by rfl)))) (s_one (s_ret (fE (f_fun1 hK (pe_callB (b_sorted (by rfl) hu) (by rfl) W.b_sorted boot_sorted (pa_cons (ePE (fE (f_lc (own := [("names", 5)]) hK (by rfl) hN (i_peek hK (p_peek (pv 3))) (blk_of (own := [("names", 5)]) (by kernel_rfl)) (by decide) (fun _ _ _ _ _ => g_name (pg_name hN (i := 5) (by rfl) (by first | exact .inl rfl | exact .inr rfl))) (fun _ _ _ _ _ => ts_one (t_cmp hK hu (ePE (e_call hK W.f_renamed_by hr (by rfl) takes_F (a_cons (e_var (pv 0)) (a_cons (e_var (pv 5)) (a_nil) (by rfl)) (by rfl)) (by rfl) (by rfl) (by rfl))) (p_peek (pv 1)) (nobehind _ (by decide) (by decide)))) (fun _ _ _ _ _ => e_var (pv 5)) (by intro _; rfl)))) (pa_nil)))))))))
theorem p_turned_by (W : Wd P w K mg base S k C) (hK : K = S.K) {f : Addr} {cdv : Value} {A : Around} {outer : List Env} {s : Shared} {H : Hp} {E : XK} (hr2 : Room (k + 2) (A.deeper (envOfC "turned_by" (defScope (top 17)) s.heap.objs.size f cdv))) : PSs (cxI P w K mg base N_turned_by "turned_by" 17 f cdv A outer s H E) (defBody (top 17)) (rdS S C E c_turned_by) := by
  have hr := hr2.mono (Nat.le_add_right k 2)
  have hu := hu_of hr
  have hN : N_turned_by.Nodup := by decide +kernel
  have tk : Takes (cxI P w K mg base N_turned_by "turned_by" 17 f cdv A outer s H E) (fun cls d _ H => E cls d H) := takes_cx
  have hp : PassesOwn (model P w) (cxI P w K mg base N_turned_by "turned_by" 17 f cdv A outer s H E).A (cxI P w K mg base N_turned_by "turned_by" 17 f cdv A outer s H E).env (cxI P w K mg base N_turned_by "turned_by" 17 f cdv A outer s H E).xe := owns_cx
  exact s_cons (s_for hp (by rfl) (i_rng1 hK (by rfl) W.b_range (by rfl) (e_bin hK (v_bin _) (p_peek (pv 1)) (ePE (e_int)))) (g_name (pg_name hN (i := 2) (by rfl) (by first | exact .inl rfl | exact .inr rfl))) (s_one (s_set (ps_set hN (by rfl) (by first | exact .inl rfl | exact .inr rfl) (zE (e_tup hK (a_cons (e_call hK W.f_back_by hr (by rfl) tk (a_cons (e_ix hK hu (p_peek (pv 0)) (ePE (e_int)) (by intro _ _; rfl)) (a_nil) (by rfl)) (by rfl) (by rfl) (by rfl)) (a_cons (e_ix hK hu (p_peek (pv 0)) (ePE (e_int)) (by intro _ _; rfl)) (a_nil) (by rfl)) (by rfl))))))) (by intro _; rfl)) (s_one (s_ret (e_var (pv 0))))
theorem p_half_by (W : Wd P w K mg base S k C) (hK : K = S.K) {f : Addr} {cdv : Value} {A : Around} {outer : List Env} {s : Shared} {H : Hp} {E : XK} (hr2 : Room (k + 2) (A.deeper (envOfC "half_by" (defScope (top 19)) s.heap.objs.size f cdv))) : PSs (cxI P w K mg base N_half_by "half_by" 19 f cdv A outer s H E) (defBody (top 19)) (rdS S C E c_half_by) := by
  have hr := hr2.mono (Nat.le_add_right k 2)
  have hu := hu_of hr
  have hN : N_half_by.Nodup := by decide +kernel
  have tk : Takes (cxI P w K mg base N_half_by "half_by" 19 f cdv A outer s H E) (fun cls d _ H => E cls d H) := takes_cx
  have hp : PassesOwn (model P w) (cxI P w K mg base N_half_by "half_by" 19 f cdv A outer s H E).A (cxI P w K mg base N_half_by "half_by" 19 f cdv A outer s H E).env (cxI P w K mg base N_half_by "half_by" 19 f cdv A outer s H E).xe := owns_cx
  exact s_one (s_ret (e_fun1 hK (pe_callTy b_tuple (by rfl) W.b_tuple boot_tuple (pa_cons (ePE (e_call hK W.f_renamings_by hr (by rfl) tk (a_cons (e_var (pv 0)) (a_cons (e_call hK W.f_turned_by hr (by rfl) tk (a_cons (e_var (pv 0)) (a_cons (e_int) (a_nil) (by rfl)) (by rfl)) (by rfl) (by rfl) (by rfl)) (a_nil) (by rfl)) (by rfl)) (by rfl) (by rfl) (by rfl))) (pa_nil)))))
theorem p_half_turns (W : Wd P w K mg base S k C) (hK : K = S.K) {f : Addr} {cdv : Value} {A : Around} {outer : List Env} {s : Shared} {H : Hp} {E : XK} (hr2 : Room (k + 2) (A.deeper (envOfC "half_turns" (defScope (top 20)) s.heap.objs.size f cdv))) : PSs (cxI P w K mg base N_half_turns "half_turns" 20 f cdv A outer s H E) (defBody (top 20)) (rdS S C E c_half_turns) := by
  have hr := hr2.mono (Nat.le_add_right k 2)
  have hu := hu_of hr
  have hN : N_half_turns.Nodup := by decide +kernel
  have tk : Takes (cxI P w K mg base N_half_turns "half_turns" 20 f cdv A outer s H E) (fun cls d _ H => E cls d H) := takes_cx
  have hp : PassesOwn (model P w) (cxI P w K mg base N_half_turns "half_turns" 20 f cdv A outer s H E).A (cxI P w K mg base N_half_turns "half_turns" 20 f cdv A outer s H E).env (cxI P w K mg base N_half_turns "half_turns" 20 f cdv A outer s H E).xe := owns_cx
  exact s_cons (s_drop (ps_expr (e_call hK W.f_need_surface hr (by rfl) tk (a_cons (e_var (pv 0)) (a_nil) (by rfl)) (by rfl) (by rfl) (by rfl)))) (s_one (s_ret (e_call hK W.f_half_by hr (by rfl) tk (a_cons (e_var (pv 0)) (a_nil) (by rfl)) (by rfl) (by rfl) (by rfl))))
theorem p__law_mixed (W : Wd P w K mg base S k C) (hK : K = S.K) {f : Addr} {cdv : Value} {A : Around} {outer : List Env} {s : Shared} {H : Hp} {E : XK} (hr2 : Room (k + 2) (A.deeper (envOfC "_law_mixed" (defScope (top 23)) s.heap.objs.size f cdv))) : PSs (cxI P w K mg base N__law_mixed "_law_mixed" 23 f cdv A outer s H E) (defBody (top 23)) (rdS S C E c__law_mixed) := by
  have hr := hr2.mono (Nat.le_add_right k 2)
  have hu := hu_of hr
  have hN : N__law_mixed.Nodup := by decide +kernel
  have tk : Takes (cxI P w K mg base N__law_mixed "_law_mixed" 23 f cdv A outer s H E) (fun cls d _ H => E cls d H) := takes_cx
  have hp : PassesOwn (model P w) (cxI P w K mg base N__law_mixed "_law_mixed" 23 f cdv A outer s H E).A (cxI P w K mg base N__law_mixed "_law_mixed" 23 f cdv A outer s H E).env (cxI P w K mg base N__law_mixed "_law_mixed" 23 f cdv A outer s H E).xe := owns_cx
  exact s_cons (x_setTurn hu (pv 0) (e_bin hK (v_bin _) (ePE (x_turn hu (pv 0) (by intro _ _; rfl))) (ePE (e_int))) (by rfl)) (s_cons (s_par2 (ps_par (by rfl) hN (by rfl) (by rfl) (by decide) (by rfl) (by rfl) (pa_cons (zE (e_fun1 hK (pe_callTy b_int (by rfl) W.b_int PyProof.Rows.boot_int (pa_cons (ePE (x_turn hu (pv 0) (by intro _ _; rfl))) (pa_nil))))) (pa_cons (zE (e_int)) (pa_nil))) (by rfl))) (s_cons (s_for hp (by rfl) (i_val hK (fE (f_lst hK (a_cons (e_int) (a_cons (e_int) (a_cons (e_int) (a_nil) (by rfl)) (by rfl)) (by rfl))))) (g_name (pg_name hN (i := 3) (by rfl) (by first | exact .inl rfl | exact .inr rfl))) (s_cons (s_set (ps_set hN (by rfl) (by first | exact .inl rfl | exact .inr rfl) (zE (e_bin hK (v_bin _) (ePE (e_bin hK (v_bin _) (ePE (e_bin hK (v_bin _) (p_peek (pv 1)) (ePE (e_int)))) (ePE (e_bin hK (v_bin _) (p_peek (pv 3)) (ePE (e_int)))))) (p_peek (pv 3)))))) (s_cons (x_forCells hK hu hp (by rfl) (pv 0) (by intro _ _; rfl) (pg_name hN (by rfl) (by first | exact .inl rfl | exact .inr rfl)) (s_one (s_set (ps_set hN (by rfl) (by first | exact .inl rfl | exact .inr rfl) (zE (e_bin hK (v_bin _) (ePE (e_bin hK (v_bin _) (ePE (e_bin hK (v_bin _) (ePE (e_bin hK (v_bin _) (p_peek (pv 4)) (ePE (e_int)))) (ePE (e_fun1 hK (pe_callTy b_int (by rfl) W.b_int PyProof.Rows.boot_int (pa_cons (p_peek (pv 5)) (pa_nil))))))) (p_peek (pv 1)))) (p_peek (pv 3))))))) (by intro _; rfl)) (s_one (s_set (ps_set hN (by rfl) (by first | exact .inl rfl | exact .inr rfl) (zE (e_bin hK (v_bin _) (ePE (e_bin hK (v_bin _) (p_peek (pv 2)) (ePE (e_int)))) (ePE (e_bin hK (v_bin _) (ePE (e_bin hK (v_bin _) (p_peek (pv 4)) (ePE (e_int)))) (p_peek (pv 3))))))))))) (by intro _; rfl)) (s_one (s_ret (e_var (pv 2))))))
theorem p__law_take (W : Wd P w K mg base S k C) (hK : K = S.K) {f : Addr} {cdv : Value} {A : Around} {outer : List Env} {s : Shared} {H : Hp} {E : XK} (hr2 : Room (k + 2) (A.deeper (envOfC "_law_take" (defScope (top 24)) s.heap.objs.size f cdv))) : PSs (cxI P w K mg base N__law_take "_law_take" 24 f cdv A outer s H E) (defBody (top 24)) (rdS S C E c__law_take) := by
  have hr := hr2.mono (Nat.le_add_right k 2)
  have hu := hu_of hr
  have hN : N__law_take.Nodup := by decide +kernel
  have tk : Takes (cxI P w K mg base N__law_take "_law_take" 24 f cdv A outer s H E) (fun cls d _ H => E cls d H) := takes_cx
  have hp : PassesOwn (model P w) (cxI P w K mg base N__law_take "_law_take" 24 f cdv A outer s H E).A (cxI P w K mg base N__law_take "_law_take" 24 f cdv A outer s H E).env (cxI P w K mg base N__law_take "_law_take" 24 f cdv A outer s H E).xe := owns_cx
  exact s_cons (s_if (t_cmp hK hu (ePE (x_rest hu (pv 0) (by intro _ _; rfl))) (ePE (e_int)) (nobehind _ (by decide) (by decide))) (s_one (x_setRest hu (pv 0) (e_ifExp (x_largeNe hK hu (pv 0) (by intro _ _; rfl) (pe_lst pa_nil) (nobehind _ (by decide) (by decide))) (x_popLarge hu (pv 0) (by intro _ _; rfl) (by rfl) pe_int (by rfl) (by rfl) (by rfl) (by rfl)) (e_call hK W.f__law_mixed hr (by rfl) tk (a_cons (e_var (pv 0)) (a_nil) (by rfl)) (by rfl) (by rfl) (by rfl))) (by rfl))) (s_nil)) (s_cons (s_set (ps_set hN (by rfl) (by first | exact .inl rfl | exact .inr rfl) (zE (e_bin hK (v_bin _) (ePE (e_fun1 hK (pe_callTy b_int (by rfl) W.b_int PyProof.Rows.boot_int (pa_cons (ePE (x_rest hu (pv 0) (by intro _ _; rfl))) (pa_nil))))) (p_peek (pv 1)))))) (s_cons (x_setRest hu (pv 0) (e_bin hK (v_bin _) (ePE (e_fun1 hK (pe_callTy b_int (by rfl) W.b_int PyProof.Rows.boot_int (pa_cons (ePE (x_rest hu (pv 0) (by intro _ _; rfl))) (pa_nil))))) (p_peek (pv 1))) (by rfl)) (s_one (s_ret (e_var (pv 2))))))
theorem p__law_pick (W : Wd P w K mg base S k C) (hK : K = S.K) {f : Addr} {cdv : Value} {A : Around} {outer : List Env} {s : Shared} {H : Hp} {E : XK} (hr2 : Room (k + 2) (A.deeper (envOfC "_law_pick" (defScope (top 25)) s.heap.objs.size f cdv))) : PSs (cxI P w K mg base N__law_pick "_law_pick" 25 f cdv A outer s H E) (defBody (top 25)) (rdS S C E c__law_pick) := by
  have hr := hr2.mono (Nat.le_add_right k 2)
  have hu := hu_of hr
  have hN : N__law_pick.Nodup := by decide +kernel
  have tk : Takes (cxI P w K mg base N__law_pick "_law_pick" 25 f cdv A outer s H E) (fun cls d _ H => E cls d H) := takes_cx
  have hp : PassesOwn (model P w) (cxI P w K mg base N__law_pick "_law_pick" 25 f cdv A outer s H E).A (cxI P w K mg base N__law_pick "_law_pick" 25 f cdv A outer s H E).env (cxI P w K mg base N__law_pick "_law_pick" 25 f cdv A outer s H E).xe := owns_cx
  exact s_one (s_ret (e_ix hK hu (p_peek (pv 1)) (ePE (e_call hK W.f__law_take hr (by rfl) tk (a_cons (e_var (pv 0)) (a_cons (e_fun1 hK (pe_callB b_len (by rfl) W.b_len boot_len (pa_cons (p_peek (pv 1)) (pa_nil)))) (a_nil) (by rfl)) (by rfl)) (by rfl) (by rfl) (by rfl))) (by intro _ _; rfl)))
theorem p__law_shuffled (W : Wd P w K mg base S k C) (hK : K = S.K) {f : Addr} {cdv : Value} {A : Around} {outer : List Env} {s : Shared} {H : Hp} {E : XK} (hr2 : Room (k + 2) (A.deeper (envOfC "_law_shuffled" (defScope (top 26)) s.heap.objs.size f cdv))) : PSs (cxI P w K mg base N__law_shuffled "_law_shuffled" 26 f cdv A outer s H E) (defBody (top 26)) (rdS S C E c__law_shuffled) := by
  have hr := hr2.mono (Nat.le_add_right k 2)
  have hu := hu_of hr
  have hN : N__law_shuffled.Nodup := by decide +kernel
  have tk : Takes (cxI P w K mg base N__law_shuffled "_law_shuffled" 26 f cdv A outer s H E) (fun cls d _ H => E cls d H) := takes_cx
  have hp : PassesOwn (model P w) (cxI P w K mg base N__law_shuffled "_law_shuffled" 26 f cdv A outer s H E).A (cxI P w K mg base N__law_shuffled "_law_shuffled" 26 f cdv A outer s H E).env (cxI P w K mg base N__law_shuffled "_law_shuffled" 26 f cdv A outer s H E).xe := owns_cx
  exact s_cons (s_par2 (ps_par (by rfl) hN (by rfl) (by rfl) (by decide) (by rfl) (by rfl) (pa_cons (zF (f_fun1 hK (pe_callTy (b_list (by rfl)) (by rfl) W.b_list boot_list (pa_cons (p_peek (pv 1)) (pa_nil))))) (pa_cons (zF (f_lst hK (a_nil))) (pa_nil))) (by rfl))) (s_cons (s_while hp (t_cmp hK hu (p_peek (pv 2)) (ePE (fE (f_lst hK (a_nil)))) (nobehind _ (by decide) (by decide))) (s_one (s_app (ps_expr (pe_bm F.plainAttrs_list F.slot_list_append F.type_list_append mt_append (pv 3) (pa_cons (m_popAt (pv 2) (e_call hK W.f__law_take hr (by rfl) tk (a_cons (e_var (pv 0)) (a_cons (e_fun1 hK (pe_callB b_len (by rfl) W.b_len boot_len (pa_cons (p_peek (pv 2)) (pa_nil)))) (a_nil) (by rfl)) (by rfl)) (by rfl) (by rfl) (by rfl)) (by rfl) (by rfl) (by rfl) (by rfl) (by rfl)) pa_nil)))))) (s_one (s_esc [3] (s_ret (e_var (pv 3))))))
theorem p__law_kinds (W : Wd P w K mg base S k C) (hK : K = S.K) {f : Addr} {cdv : Value} {A : Around} {outer : List Env} {s : Shared} {H : Hp} {E : XK} (hr2 : Room (k + 2) (A.deeper (envOfC "_law_kinds" (defScope (top 28)) s.heap.objs.size f cdv))) : PSs (cxI P w K mg base N__law_kinds "_law_kinds" 28 f cdv A outer s H E) (defBody (top 28)) (rdS S C E c__law_kinds) := by
  have hr := hr2.mono (Nat.le_add_right k 2)
  have hu := hu_of hr
  have hN : N__law_kinds.Nodup := by decide +kernel
  have tk : Takes (cxI P w K mg base N__law_kinds "_law_kinds" 28 f cdv A outer s H E) (fun cls d _ H => E cls d H) := takes_cx
  have hp : PassesOwn (model P w) (cxI P w K mg base N__law_kinds "_law_kinds" 28 f cdv A outer s H E).A (cxI P w K mg base N__law_kinds "_law_kinds" 28 f cdv A outer s H E).env (cxI P w K mg base N__law_kinds "_law_kinds" 28 f cdv A outer s H E).xe := owns_cx
  exact s_cons (s_par2 (ps_par (by rfl) hN (by rfl) (by rfl) (by decide) (by rfl) (by rfl) (pa_cons (zF (f_lst hK (a_nil))) (pa_cons (zF (f_lst hK (a_cons (e_var (pv 0)) (a_nil) (by rfl)))) (pa_nil))) (by rfl))) (s_cons (s_while hp (t_cmp hK hu (p_peek (pv 2)) (ePE (fE (f_lst hK (a_nil)))) (nobehind _ (by decide) (by decide))) (s_cons (s_setM (ps_set hN (by rfl) (by first | exact .inl rfl | exact .inr rfl) (m_pop (pv 2) (by rfl) (by rfl)))) (s_cons (s_set (ps_set hN (by rfl) (by first | exact .inl rfl | exact .inr rfl) (zE (e_ifExp (t_val (e_isi (T := "tuple") hK (pe_callB (b_isi (by decide)) (by rfl) W.b_isinstance boot_isinstance (pa_cons (p_peek (pv 3)) (pa_cons (pe_bltn (v := .ty "tuple") (by rfl) W.b_tuple PyProof.Rows.boot_tuple (by rfl)) pa_nil)))) (by intro _; rfl)) (e_str) (e_ifExp (t_val (e_isi (T := "list") hK (pe_callB (b_isi (by decide)) (by rfl) W.b_isinstance boot_isinstance (pa_cons (p_peek (pv 3)) (pa_cons (pe_bltn (v := .ty "list") (by rfl) W.b_list PyProof.Rows.boot_list (by rfl)) pa_nil)))) (by intro _; rfl)) (e_str) (e_ifExp (t_val (e_isi (T := "dict") hK (pe_callB (b_isi (by decide)) (by rfl) W.b_isinstance boot_isinstance (pa_cons (p_peek (pv 3)) (pa_cons (pe_bltn (v := .ty "dict") (by rfl) W.b_dict PyProof.Rows.boot_dict (by rfl)) pa_nil)))) (by intro _; rfl)) (e_str) (e_ifExp (t_val (e_isi (T := "bool") hK (pe_callB (b_isi (by decide)) (by rfl) W.b_isinstance boot_isinstance (pa_cons (p_peek (pv 3)) (pa_cons (pe_bltn (v := .ty "bool") (by rfl) W.b_bool PyProof.Rows.boot_bool (by rfl)) pa_nil)))) (by intro _; rfl)) (e_str) (e_str)))))))) (s_cons (s_app (ps_expr (pe_bm F.plainAttrs_list F.slot_list_append F.type_list_append mt_append (pv 1) (pa_cons (m_of (e_var (pv 4))) pa_nil)))) (s_cons (s_if (t_cmp hK hu (p_peek (pv 4)) (ePE (fE (f_lst hK (a_cons (e_str) (a_cons (e_str) (a_nil) (by rfl)) (by rfl))))) ((by rfl))) (s_one (s_set (ps_set hN (by rfl) (by first | exact .inl rfl | exact .inr rfl) (zF (f_cat hK (p_peek (pv 2)) (ePE (fE (f_fun1 hK (pe_callTy (b_list (by rfl)) (by rfl) W.b_list boot_list (pa_cons (p_peek (pv 3)) (pa_nil))))))))))) (s_nil)) (s_one (s_if (t_cmp hK hu (p_peek (pv 4)) (ePE (e_str)) (nobehind _ (by decide) (by decide))) (bs_fail) (s_nil)))))))) (s_one (s_esc [1] (s_ret (e_var (pv 1))))))
theorem p__law_says (W : Wd P w K mg base S k C) (hK : K = S.K) {f : Addr} {cdv : Value} {A : Around} {outer : List Env} {s : Shared} {H : Hp} {E : XK} (hr2 : Room (k + 2) (A.deeper (envOfC "_law_says" (defScope (top 29)) s.heap.objs.size f cdv))) : PSs (cxI P w K mg base N__law_says "_law_says" 29 f cdv A outer s H E) (defBody (top 29)) (rdS S C E c__law_says) := by
  have hr := hr2.mono (Nat.le_add_right k 2)
  have hu := hu_of hr
  have hN : N__law_says.Nodup := by decide +kernel
  have tk : Takes (cxI P w K mg base N__law_says "_law_says" 29 f cdv A outer s H E) (fun cls d _ H => E cls d H) := takes_cx
  have hp : PassesOwn (model P w) (cxI P w K mg base N__law_says "_law_says" 29 f cdv A outer s H E).A (cxI P w K mg base N__law_says "_law_says" 29 f cdv A outer s H E).env (cxI P w K mg base N__law_says "_law_says" 29 f cdv A outer s H E).xe := owns_cx
  exact s_one (s_ret (e_and (e_cmp hK hu (p_peek (pv 0)) (p_peek (pv 1)) (nobehind _ (by decide) (by decide))) (pe_one (e_cmp hK hu (ePE (e_call hK W.f__law_kinds hr (by rfl) tk (a_cons (e_var (pv 0)) (a_nil) (by rfl)) (by rfl) (by rfl) (by rfl))) (ePE (e_call hK W.f__law_kinds hr (by rfl) tk (a_cons (e_var (pv 1)) (a_nil) (by rfl)) (by rfl) (by rfl) (by rfl))) (nobehind _ (by decide) (by decide))))))
theorem p__law_then (W : Wd P w K mg base S k C) (hK : K = S.K) {f : Addr} {cdv : Value} {A : Around} {outer : List Env} {s : Shared} {H : Hp} {E : XK} (hr2 : Room (k + 2) (A.deeper (envOfC "_law_then" (defScope (top 30)) s.heap.objs.size f cdv))) : PSs (cxI P w K mg base N__law_then "_law_then" 30 f cdv A outer s H E) (defBody (top 30)) (rdS S C E c__law_then) := by
  have hr := hr2.mono (Nat.le_add_right k 2)
  have hu := hu_of hr
  have hN : N__law_then.Nodup := by decide +kernel
  have tk : Takes (cxI P w K mg base N__law_then "_law_then" 30 f cdv A outer s H E) (fun cls d _ H => E cls d H) := takes_cx
  have hp : PassesOwn (model P w) (cxI P w K mg base N__law_then "_law_then" 30 f cdv A outer s H E).A (cxI P w K mg base N__law_then "_law_then" 30 f cdv A outer s H E).env (cxI P w K mg base N__law_then "_law_then" 30 f cdv A outer s H E).xe := owns_cx
  exact s_one (s_ret (e_fun1 hK (pe_callTy b_tuple (by rfl) W.b_tuple boot_tuple (pa_cons (ePE (fE (f_lc (own := [("square", 2)]) hK (by rfl) hN (i_peek hK (p_peek (pv 0))) (blk_of (own := [("square", 2)]) (by kernel_rfl)) (by decide) (fun _ _ _ _ _ => g_name (pg_name hN (i := 2) (by rfl) (by first | exact .inl rfl | exact .inr rfl))) (fun _ _ _ _ _ => ts_nil) (fun _ _ _ _ _ => e_ix hK hu (p_peek (pv 1)) (p_peek (pv 2)) (by intro _ _; rfl)) (by intro _; rfl)))) (pa_nil)))))
theorem p__law_back (W : Wd P w K mg base S k C) (hK : K = S.K) {f : Addr} {cdv : Value} {A : Around} {outer : List Env} {s : Shared} {H : Hp} {E : XK} (hr2 : Room (k + 2) (A.deeper (envOfC "_law_back" (defScope (top 31)) s.heap.objs.size f cdv))) : PSs (cxI P w K mg base N__law_back "_law_back" 31 f cdv A outer s H E) (defBody (top 31)) (rdS S C E c__law_back) := by
  have hr := hr2.mono (Nat.le_add_right k 2)
  have hu := hu_of hr
  have hN : N__law_back.Nodup := by decide +kernel
  have tk : Takes (cxI P w K mg base N__law_back "_law_back" 31 f cdv A outer s H E) (fun cls d _ H => E cls d H) := takes_cx
  have hp : PassesOwn (model P w) (cxI P w K mg base N__law_back "_law_back" 31 f cdv A outer s H E).A (cxI P w K mg base N__law_back "_law_back" 31 f cdv A outer s H E).env (cxI P w K mg base N__law_back "_law_back" 31 f cdv A outer s H E).xe := owns_cx
  exact s_one (s_ret (e_fun1 hK (pe_callTy b_tuple (by rfl) W.b_tuple boot_tuple (pa_cons (ePE (fE (f_lc (own := [("square", 1)]) hK (by rfl) hN (i_weak (i_rng1 hK (by rfl) W.b_range (by rfl) (e_fun1 hK (pe_callB b_len (by rfl) W.b_len boot_len (pa_cons (p_peek (pv 0)) (pa_nil)))))) (blk_of (own := [("square", 1)]) (by kernel_rfl)) (by decide) (fun _ _ _ _ _ => g_name (pg_name hN (i := 1) (by rfl) (by first | exact .inl rfl | exact .inr rfl))) (fun _ _ _ _ _ => ts_nil) (fun _ _ _ _ _ => e_tidx hK (e_var (pv 0)) (e_var (pv 1)) (by rfl) (by rfl) (by rfl) (by rfl) (by rfl)) (by intro _; rfl)))) (pa_nil)))))
theorem p__law_power (W : Wd P w K mg base S k C) (hK : K = S.K) {f : Addr} {cdv : Value} {A : Around} {outer : List Env} {s : Shared} {H : Hp} {E : XK} (hr2 : Room (k + 2) (A.deeper (envOfC "_law_power" (defScope (top 32)) s.heap.objs.size f cdv))) : PSs (cxI P w K mg base N__law_power "_law_power" 32 f cdv A outer s H E) (defBody (top 32)) (rdS S C E c__law_power) := by
  have hr := hr2.mono (Nat.le_add_right k 2)
  have hu := hu_of hr
  have hN : N__law_power.Nodup := by decide +kernel
  have tk : Takes (cxI P w K mg base N__law_power "_law_power" 32 f cdv A outer s H E) (fun cls d _ H => E cls d H) := takes_cx
  have hp : PassesOwn (model P w) (cxI P w K mg base N__law_power "_law_power" 32 f cdv A outer s H E).A (cxI P w K mg base N__law_power "_law_power" 32 f cdv A outer s H E).env (cxI P w K mg base N__law_power "_law_power" 32 f cdv A outer s H E).xe := owns_cx
  exact s_cons (s_par3 (ps_par3 (by rfl) hN (by rfl) (by rfl) (by rfl) (by decide) (by decide) (by decide) (by rfl) (by rfl) (by rfl) (pa_cons (zE (e_tupRg1 hK (by rfl) (by rfl) W.b_tuple (by rfl) W.b_range (e_fun1 hK (pe_callB b_len (by rfl) W.b_len boot_len (pa_cons (p_peek (pv 0)) (pa_nil)))) (by rfl) (by rfl))) (pa_cons (zE (e_fun1 hK (pe_callB b_abs (by rfl) W.b_abs boot_abs (pa_cons (p_peek (pv 1)) (pa_nil))))) (pa_cons (zE (e_ifExp (t_cmp hK hu (p_peek (pv 1)) (ePE (e_int)) (nobehind _ (by decide) (by decide))) (e_var (pv 0)) (e_call hK W.f__law_back hr (by rfl) tk (a_cons (e_var (pv 0)) (a_nil) (by rfl)) (by rfl) (by rfl) (by rfl)))) (pa_nil)))) (by rfl))) (s_cons (s_while hp (t_cmp hK hu (p_peek (pv 3)) (ePE (e_int)) (nobehind _ (by decide) (by decide))) (s_cons (s_set (ps_set hN (by rfl) (by first | exact .inl rfl | exact .inr rfl) (zE (e_ifExp (t_cmp hK hu (ePE (e_bin hK (v_bin _) (p_peek (pv 3)) (ePE (e_int)))) (ePE (e_int)) (nobehind _ (by decide) (by decide))) (e_call hK W.f__law_then hr (by rfl) tk (a_cons (e_var (pv 2)) (a_cons (e_var (pv 4)) (a_nil) (by rfl)) (by rfl)) (by rfl) (by rfl) (by rfl)) (e_var (pv 2)))))) (s_one (s_par2 (ps_par (by rfl) hN (by rfl) (by rfl) (by decide) (by rfl) (by rfl) (pa_cons (zE (e_call hK W.f__law_then hr (by rfl) tk (a_cons (e_var (pv 4)) (a_cons (e_var (pv 4)) (a_nil) (by rfl)) (by rfl)) (by rfl) (by rfl) (by rfl))) (pa_cons (zE (e_bin hK (v_bin _) (p_peek (pv 3)) (ePE (e_int)))) (pa_nil))) (by rfl)))))) (s_one (s_ret (e_var (pv 2)))))
theorem p__law_hangs (W : Wd P w K mg base S k C) (hK : K = S.K) {f : Addr} {cdv : Value} {A : Around} {outer : List Env} {s : Shared} {H : Hp} {E : XK} (hr2 : Room (k + 2) (A.deeper (envOfC "_law_hangs" (defScope (top 33)) s.heap.objs.size f cdv))) : PSs (cxI P w K mg base N__law_hangs "_law_hangs" 33 f cdv A outer s H E) (defBody (top 33)) (rdS S C E c__law_hangs) := by
  have hr := hr2.mono (Nat.le_add_right k 2)
  have hu := hu_of hr
  have hN : N__law_hangs.Nodup := by decide +kernel
  have tk : Takes (cxI P w K mg base N__law_hangs "_law_hangs" 33 f cdv A outer s H E) (fun cls d _ H => E cls d H) := takes_cx
  have hp : PassesOwn (model P w) (cxI P w K mg base N__law_hangs "_law_hangs" 33 f cdv A outer s H E).A (cxI P w K mg base N__law_hangs "_law_hangs" 33 f cdv A outer s H E).env (cxI P w K mg base N__law_hangs "_law_hangs" 33 f cdv A outer s H E).xe := owns_cx
  exact s_cons (s_par2 (ps_par (by rfl) hN (by rfl) (by rfl) (by decide) (by rfl) (by rfl) (pa_cons (zF (f_disp (prs := [(dC (.int 0), dC (.bl true))]) hK hu (pps_cons (pe_pre (e_int)) (pe_pre (e_bl)) (pps_nil)) (by rfl) (by rfl) (by simp) (by decide) (by simp))) (pa_cons (zF (f_lst hK (a_cons (e_int) (a_nil) (by rfl)))) (pa_nil))) (by rfl))) (s_cons (s_while hp (t_cmp hK hu (p_peek (pv 3)) (ePE (fE (f_lst hK (a_nil)))) (nobehind _ (by decide) (by decide))) (s_cons (s_setM (ps_set hN (by rfl) (by first | exact .inl rfl | exact .inr rfl) (m_pop (pv 3) (by rfl) (by rfl)))) (s_one (s_for hp (by rfl) (i_val hK (fE (f_lst hK (a_cons (e_ix hK hu (p_peek (pv 0)) (p_peek (pv 4)) (by intro _ _; rfl)) (a_cons (e_ix hK hu (p_peek (pv 1)) (p_peek (pv 4)) (by intro _ _; rfl)) (a_nil) (by rfl)) (by rfl))))) (g_name (pg_name hN (i := 5) (by rfl) (by first | exact .inl rfl | exact .inr rfl))) (s_one (s_if (t_cmp hK hu (p_peek (pv 5)) (p_peek (pv 2)) ((by rfl))) (s_cons (s_setItem hK (ps_asg (zE (e_bl)) (pg_sub (pv 2) (e_var (pv 5)) (set_D hu)))) (s_one (s_app (ps_expr (pe_bm F.plainAttrs_list F.slot_list_append F.type_list_append mt_append (pv 3) (pa_cons (m_of (e_var (pv 5))) pa_nil)))))) (s_nil))) (by intro _; rfl))))) (s_one (s_ret (e_cmp hK hu (ePE (e_fun1 hK (pe_callB b_len (by rfl) W.b_len boot_len (pa_cons (p_peek (pv 2)) (pa_nil))))) (ePE (e_fun1 hK (pe_callB b_len (by rfl) W.b_len boot_len (pa_cons (p_peek (pv 0)) (pa_nil))))) (nobehind _ (by decide) (by decide))))))
theorem p__law_renamed (W : Wd P w K mg base S k C) (hK : K = S.K) {f : Addr} {cdv : Value} {A : Around} {outer : List Env} {s : Shared} {H : Hp} {E : XK} (hr2 : Room (k + 2) (A.deeper (envOfC "_law_renamed" (defScope (top 34)) s.heap.objs.size f cdv))) : PSs (cxI P w K mg base N__law_renamed "_law_renamed" 34 f cdv A outer s H E) (defBody (top 34)) (rdS S C E c__law_renamed) := by
  have hr := hr2.mono (Nat.le_add_right k 2)
  have hu := hu_of hr
  have hN : N__law_renamed.Nodup := by decide +kernel
  have tk : Takes (cxI P w K mg base N__law_renamed "_law_renamed" 34 f cdv A outer s H E) (fun cls d _ H => E cls d H) := takes_cx
  have hp : PassesOwn (model P w) (cxI P w K mg base N__law_renamed "_law_renamed" 34 f cdv A outer s H E).A (cxI P w K mg base N__law_renamed "_law_renamed" 34 f cdv A outer s H E).env (cxI P w K mg base N__law_renamed "_law_renamed" 34 f cdv A outer s H E).xe := owns_cx
  exact s_cons (s_set (ps_set hN (by rfl) (by first | exact .inl rfl | exact .inr rfl) (zE (e_call hK W.f__law_back hr (by rfl) tk (a_cons (e_var (pv 1)) (a_nil) (by rfl)) (by rfl) (by rfl) (by rfl))))) (s_one (s_ret (e_fun1 hK (pe_callTy b_tuple (by rfl) W.b_tuple boot_tuple (pa_cons (ePE (fE (f_lc (own := [("naming", 3)]) hK (by rfl) hN (i_peek hK (p_peek (pv 0))) (blk_of (own := [("naming", 3)]) (by kernel_rfl)) (by decide) (fun _ _ _ _ _ => g_name (pg_name hN (i := 3) (by rfl) (by first | exact .inl rfl | exact .inr rfl))) (fun _ _ _ _ _ => ts_nil) (fun _ _ _ _ _ => e_fun1 hK (pe_callTy b_tuple (by rfl) W.b_tuple boot_tuple (pa_cons (ePE (fE (f_lc (own := [("square", 4)]) hK (by rfl) hN (i_peek hK (p_peek (pv 2))) (blk_of (own := [("square", 4)]) (by kernel_rfl)) (by decide) (fun _ _ _ _ _ => g_name (pg_name hN (i := 4) (by rfl) (by first | exact .inl rfl | exact .inr rfl))) (fun _ _ _ _ _ => ts_nil) (fun _ _ _ _ _ => e_ix hK hu (p_peek (pv 1)) (ePE (e_ix hK hu (p_peek (pv 3)) (p_peek (pv 4)) (by intro _ _; rfl))) (by intro _ _; rfl)) (by intro _; rfl)))) (pa_nil)))) (by intro _; rfl)))) (pa_nil))))))
theorem p__law_walk (W : Wd P w K mg base S k C) (hK : K = S.K) {f : Addr} {cdv : Value} {A : Around} {outer : List Env} {s : Shared} {H : Hp} {E : XK} (hr2 : Room (k + 2) (A.deeper (envOfC "_law_walk" (defScope (top 35)) s.heap.objs.size f cdv))) : PSs (cxI P w K mg base N__law_walk "_law_walk" 35 f cdv A outer s H E) (defBody (top 35)) (rdS S C E c__law_walk) := by
  have hr := hr2.mono (Nat.le_add_right k 2)
  have hu := hu_of hr
  have hN : N__law_walk.Nodup := by decide +kernel
  have tk : Takes (cxI P w K mg base N__law_walk "_law_walk" 35 f cdv A outer s H E) (fun cls d _ H => E cls d H) := takes_cx
  have hp : PassesOwn (model P w) (cxI P w K mg base N__law_walk "_law_walk" 35 f cdv A outer s H E).A (cxI P w K mg base N__law_walk "_law_walk" 35 f cdv A outer s H E).env (cxI P w K mg base N__law_walk "_law_walk" 35 f cdv A outer s H E).xe := owns_cx
  exact s_cons (s_par2c hK (ps_asg (pe_tup (pa_cons (zF (f_disp (prs := [(dVar 1, dC (.int 0))]) hK hu (pps_cons (pe_pre (e_var (pv 1))) (pe_pre (e_int)) (pps_nil)) (by rfl) (by rfl) (by simp) (by decide) (by simp))) (pa_cons (zF (f_lst hK (a_cons (e_var (pv 1)) (a_nil) (by rfl)))) (pa_nil)))) (pg_tup (by rfl) (pgs_cons (pg_name hN (i := 2) (by rfl) (by first | exact .inl rfl | exact .inr rfl)) (pgs_cons (pg_name hN (i := 3) (by rfl) (by first | exact .inl rfl | exact .inr rfl)) (pgs_nil)))))) (s_cons (s_for hp (by rfl) (i_rng1 hK (by rfl) W.b_range (by rfl) (e_fun1 hK (pe_callB b_len (by rfl) W.b_len boot_len (pa_cons (ePE (e_ix hK hu (p_peek (pv 0)) (ePE (e_int)) (by intro _ _; rfl))) (pa_nil))))) (g_name (pg_name hN (i := 4) (by rfl) (by first | exact .inl rfl | exact .inr rfl))) (s_one (s_for hp (by rfl) (i_val hK (fE (f_lst hK (a_cons (e_ix hK hu (ePE (e_ix hK hu (p_peek (pv 0)) (ePE (e_int)) (by intro _ _; rfl))) (ePE (e_ix hK hu (p_peek (pv 3)) (p_peek (pv 4)) (by intro _ _; rfl))) (by intro _ _; rfl)) (a_cons (e_ix hK hu (ePE (e_ix hK hu (p_peek (pv 0)) (ePE (e_int)) (by intro _ _; rfl))) (ePE (e_ix hK hu (p_peek (pv 3)) (p_peek (pv 4)) (by intro _ _; rfl))) (by intro _ _; rfl)) (a_nil) (by rfl)) (by rfl))))) (g_name (pg_name hN (i := 5) (by rfl) (by first | exact .inl rfl | exact .inr rfl))) (s_one (s_if (t_cmp hK hu (p_peek (pv 5)) (p_peek (pv 2)) ((by rfl))) (s_cons (s_setItem hK (ps_asg (zE (e_fun1 hK (pe_callB b_len (by rfl) W.b_len boot_len (pa_cons (p_peek (pv 3)) (pa_nil))))) (pg_sub (pv 2) (e_var (pv 5)) (set_D hu)))) (s_one (s_app (ps_expr (pe_bm F.plainAttrs_list F.slot_list_append F.type_list_append mt_append (pv 3) (pa_cons (m_of (e_var (pv 5))) pa_nil)))))) (s_nil))) (by intro _; rfl))) (by intro _; rfl)) (s_one (s_ret (e_fun1 hK (pe_callTy b_tuple (by rfl) W.b_tuple boot_tuple (pa_cons (ePE (fE (f_lc (own := [("one", 6)]) hK (by rfl) hN (i_weak (i_rng1 hK (by rfl) W.b_range (by rfl) (e_fun1 hK (pe_callB b_len (by rfl) W.b_len boot_len (pa_cons (p_peek (pv 3)) (pa_nil)))))) (blk_of (own := [("one", 6)]) (by kernel_rfl)) (by decide) (fun _ _ _ _ _ => g_name (pg_name hN (i := 6) (by rfl) (by first | exact .inl rfl | exact .inr rfl))) (fun _ _ _ _ _ => ts_nil) (fun _ _ _ _ _ => e_ix hK hu (p_peek (pv 2)) (p_peek (pv 6)) (by intro _ _; rfl)) (by intro _; rfl)))) (pa_nil)))))))
theorem p__law_renamings (W : Wd P w K mg base S k C) (hK : K = S.K) {f : Addr} {cdv : Value} {A : Around} {outer : List Env} {s : Shared} {H : Hp} {E : XK} (hr2 : Room (k + 2) (A.deeper (envOfC "_law_renamings" (defScope (top 36)) s.heap.objs.size f cdv))) : PSs (cxI P w K mg base N__law_renamings "_law_renamings" 36 f cdv A outer s H E) (defBody (top 36)) (rdS S C E c__law_renamings) := by
  have hr := hr2.mono (Nat.le_add_right k 2)
  have hu := hu_of hr
  have hN : N__law_renamings.Nodup := by decide +kernel
  have tk : Takes (cxI P w K mg base N__law_renamings "_law_renamings" 36 f cdv A outer s H E) (fun cls d _ H => E cls d H) := takes_cx
  have hp : PassesOwn (model P w) (cxI P w K mg base N__law_renamings "_law_renamings" 36 f cdv A outer s H E).A (cxI P w K mg base N__law_renamings "_law_renamings" 36 f cdv A outer s H E).env (cxI P w K mg base N__law_renamings "_law_renamings" 36 f cdv A outer s H E).xe := owns_cx
  exact s_cons (s_if (t_cmp hK hu (ePE (e_fun1 hK (pe_callB b_len (by rfl) W.b_len boot_len (pa_cons (ePE (e_ix hK hu (p_peek (pv 0)) (ePE (e_int)) (by intro _ _; rfl))) (pa_nil))))) (ePE (e_fun1 hK (pe_callB b_len (by rfl) W.b_len boot_len (pa_cons (ePE (e_ix hK hu (p_peek (pv 1)) (ePE (e_int)) (by intro _ _; rfl))) (pa_nil))))) (nobehind _ (by decide) (by decide))) (s_one (s_ret (fE (f_lst hK (a_nil))))) (s_nil)) (s_cons (s_set (ps_set hN (by rfl) (by first | exact .inl rfl | exact .inr rfl) (zE (e_call hK W.f__law_walk hr (by rfl) tk (a_cons (e_var (pv 0)) (a_cons (e_int) (a_nil) (by rfl)) (by rfl)) (by rfl) (by rfl) (by rfl))))) (s_cons (s_setLcV hK (by decide) (ps_setLc (by rfl) hN (i := 3) (by rfl) (by rfl) (by rfl) (i_weak (i_rng1 hK (by rfl) W.b_range (by rfl) (e_fun1 hK (pe_callB b_len (by rfl) W.b_len boot_len (pa_cons (ePE (e_ix hK hu (p_peek (pv 1)) (ePE (e_int)) (by intro _ _; rfl))) (pa_nil)))))) (blk_of (own := [("square", 4)]) (by kernel_rfl)) (fun _ _ _ _ _ => g_name (pg_name hN (i := 4) (by rfl) (by first | exact .inl rfl | exact .inr rfl))) (fun _ _ _ _ _ => ts_nil) (fun _ _ _ _ _ => e_call hK W.f__law_then hr (by rfl) takes_F (a_cons (e_var (pv 2)) (a_cons (e_call hK W.f__law_back hr (by rfl) takes_F (a_cons (e_call hK W.f__law_walk hr (by rfl) takes_F (a_cons (e_var (pv 1)) (a_cons (e_var (pv 4)) (a_nil) (by rfl)) (by rfl)) (by rfl) (by rfl) (by rfl)) (a_nil) (by rfl)) (by rfl) (by rfl) (by rfl)) (a_nil) (by rfl)) (by rfl)) (by rfl) (by rfl) (by rfl)))) (s_one (s_ret (fE (f_fun1 hK (pe_callB (b_sorted (by rfl) hu) (by rfl) W.b_sorted boot_sorted (pa_cons (ePE (fE (f_lc (own := [("names", 5)]) hK (by rfl) hN (i_peek hK (p_peek (pv 3))) (blk_of (own := [("names", 5)]) (by kernel_rfl)) (by decide) (fun _ _ _ _ _ => g_name (pg_name hN (i := 5) (by rfl) (by first | exact .inl rfl | exact .inr rfl))) (fun _ _ _ _ _ => ts_one (t_cmp hK hu (ePE (e_call hK W.f__law_renamed hr (by rfl) takes_F (a_cons (e_var (pv 0)) (a_cons (e_var (pv 5)) (a_nil) (by rfl)) (by rfl)) (by rfl) (by rfl) (by rfl))) (p_peek (pv 1)) (nobehind _ (by decide) (by decide)))) (fun _ _ _ _ _ => e_var (pv 5)) (by intro _; rfl)))) (pa_nil)))))))))
theorem p__law_sheared (W : Wd P w K mg base S k C) (hK : K = S.K) {f : Addr} {cdv : Value} {A : Around} {outer : List Env} {s : Shared} {H : Hp} {E : XK} (hr2 : Room (k + 2) (A.deeper (envOfC "_law_sheared" (defScope (top 37)) s.heap.objs.size f cdv))) : PSs (cxI P w K mg base N__law_sheared "_law_sheared" 37 f cdv A outer s H E) (defBody (top 37)) (rdS S C E c__law_sheared) := by
  have hr := hr2.mono (Nat.le_add_right k 2)
  have hu := hu_of hr
  have hN : N__law_sheared.Nodup := by decide +kernel
  have tk : Takes (cxI P w K mg base N__law_sheared "_law_sheared" 37 f cdv A outer s H E) (fun cls d _ H => E cls d H) := takes_cx
  have hp : PassesOwn (model P w) (cxI P w K mg base N__law_sheared "_law_sheared" 37 f cdv A outer s H E).A (cxI P w K mg base N__law_sheared "_law_sheared" 37 f cdv A outer s H E).env (cxI P w K mg base N__law_sheared "_law_sheared" 37 f cdv A outer s H E).xe := owns_cx
  exact s_one (s_ret (e_tup hK (a_cons (e_ix hK hu (p_peek (pv 0)) (ePE (e_int)) (by intro _ _; rfl)) (a_cons (e_call hK W.f__law_then hr (by rfl) tk (a_cons (e_ix hK hu (p_peek (pv 0)) (ePE (e_int)) (by intro _ _; rfl)) (a_cons (e_call hK W.f__law_power hr (by rfl) tk (a_cons (e_ix hK hu (p_peek (pv 0)) (ePE (e_int)) (by intro _ _; rfl)) (a_cons (e_bin hK (v_bin _) (ePE (e_int)) (p_peek (pv 1))) (a_nil) (by rfl)) (by rfl)) (by rfl) (by rfl) (by rfl)) (a_nil) (by rfl)) (by rfl)) (by rfl) (by rfl) (by rfl)) (a_nil) (by rfl)) (by rfl))))
theorem p__law_turned (W : Wd P w K mg base S k C) (hK : K = S.K) {f : Addr} {cdv : Value} {A : Around} {outer : List Env} {s : Shared} {H : Hp} {E : XK} (hr2 : Room (k + 2) (A.deeper (envOfC "_law_turned" (defScope (top 38)) s.heap.objs.size f cdv))) : PSs (cxI P w K mg base N__law_turned "_law_turned" 38 f cdv A outer s H E) (defBody (top 38)) (rdS S C E c__law_turned) := by
  have hr := hr2.mono (Nat.le_add_right k 2)
  have hu := hu_of hr
  have hN : N__law_turned.Nodup := by decide +kernel
  have tk : Takes (cxI P w K mg base N__law_turned "_law_turned" 38 f cdv A outer s H E) (fun cls d _ H => E cls d H) := takes_cx
  have hp : PassesOwn (model P w) (cxI P w K mg base N__law_turned "_law_turned" 38 f cdv A outer s H E).A (cxI P w K mg base N__law_turned "_law_turned" 38 f cdv A outer s H E).env (cxI P w K mg base N__law_turned "_law_turned" 38 f cdv A outer s H E).xe := owns_cx
  exact s_cons (s_set (ps_set hN (by rfl) (by first | exact .inl rfl | exact .inr rfl) (zE (e_var (pv 0))))) (s_cons (s_for hp (by rfl) (i_rng1 hK (by rfl) W.b_range (by rfl) (e_bin hK (v_bin _) (ePE (e_fun1 hK (pe_callTy b_int (by rfl) W.b_int PyProof.Rows.boot_int (pa_cons (p_peek (pv 1)) (pa_nil))))) (ePE (e_int)))) (g_name (pg_name hN (i := 3) (by rfl) (by first | exact .inl rfl | exact .inr rfl))) (s_one (s_set (ps_set hN (by rfl) (by first | exact .inl rfl | exact .inr rfl) (zE (e_tup hK (a_cons (e_call hK W.f__law_back hr (by rfl) tk (a_cons (e_ix hK hu (p_peek (pv 2)) (ePE (e_int)) (by intro _ _; rfl)) (a_nil) (by rfl)) (by rfl) (by rfl) (by rfl)) (a_cons (e_ix hK hu (p_peek (pv 2)) (ePE (e_int)) (by intro _ _; rfl)) (a_nil) (by rfl)) (by rfl))))))) (by intro _; rfl)) (s_one (s_ret (e_var (pv 2)))))
theorem p__law_moved (W : Wd P w K mg base S k C) (hK : K = S.K) {f : Addr} {cdv : Value} {A : Around} {outer : List Env} {s : Shared} {H : Hp} {E : XK} (hr2 : Room (k + 2) (A.deeper (envOfC "_law_moved" (defScope (top 39)) s.heap.objs.size f cdv))) : PSs (cxI P w K mg base N__law_moved "_law_moved" 39 f cdv A outer s H E) (defBody (top 39)) (rdS S C E c__law_moved) := by
  have hr := hr2.mono (Nat.le_add_right k 2)
  have hu := hu_of hr
  have hN : N__law_moved.Nodup := by decide +kernel
  have tk : Takes (cxI P w K mg base N__law_moved "_law_moved" 39 f cdv A outer s H E) (fun cls d _ H => E cls d H) := takes_cx
  have hp : PassesOwn (model P w) (cxI P w K mg base N__law_moved "_law_moved" 39 f cdv A outer s H E).A (cxI P w K mg base N__law_moved "_law_moved" 39 f cdv A outer s H E).env (cxI P w K mg base N__law_moved "_law_moved" 39 f cdv A outer s H E).xe := owns_cx
  exact s_cons (s_set (ps_set hN (by rfl) (by first | exact .inl rfl | exact .inr rfl) (zE (e_var (pv 0))))) (s_cons (s_for hp (by rfl) (i_val hK (e_var (pv 1))) (g_tup hK (by rfl) (gs_cons (g_name (pg_name hN (i := 3) (by rfl) (by first | exact .inl rfl | exact .inr rfl))) (gs_cons (g_name (pg_name hN (i := 4) (by rfl) (by first | exact .inl rfl | exact .inr rfl))) (gs_nil) (by rfl)) (by rfl)) (by rfl) (by rfl) (by rfl)) (s_one (s_set (ps_set hN (by rfl) (by first | exact .inl rfl | exact .inr rfl) (zE (e_ifExp (t_cmp hK hu (p_peek (pv 3)) (ePE (e_str)) (nobehind _ (by decide) (by decide))) (e_call hK W.f__law_sheared hr (by rfl) tk (a_cons (e_var (pv 2)) (a_cons (e_var (pv 4)) (a_nil) (by rfl)) (by rfl)) (by rfl) (by rfl) (by rfl)) (e_call hK W.f__law_turned hr (by rfl) tk (a_cons (e_var (pv 2)) (a_cons (e_var (pv 4)) (a_nil) (by rfl)) (by rfl)) (by rfl) (by rfl) (by rfl))))))) (by intro _; rfl)) (s_one (s_ret (e_var (pv 2)))))
theorem p__law_naming (W : Wd P w K mg base S k C) (hK : K = S.K) {f : Addr} {cdv : Value} {A : Around} {outer : List Env} {s : Shared} {H : Hp} {E : XK} (hr2 : Room (k + 2) (A.deeper (envOfC "_law_naming" (defScope (top 40)) s.heap.objs.size f cdv))) : PSs (cxI P w K mg base N__law_naming "_law_naming" 40 f cdv A outer s H E) (defBody (top 40)) (rdS S C E c__law_naming) := by
  have hr := hr2.mono (Nat.le_add_right k 2)
  have hu := hu_of hr
  have hN : N__law_naming.Nodup := by decide +kernel
  have tk : Takes (cxI P w K mg base N__law_naming "_law_naming" 40 f cdv A outer s H E) (fun cls d _ H => E cls d H) := takes_cx
  have hp : PassesOwn (model P w) (cxI P w K mg base N__law_naming "_law_naming" 40 f cdv A outer s H E).A (cxI P w K mg base N__law_naming "_law_naming" 40 f cdv A outer s H E).env (cxI P w K mg base N__law_naming "_law_naming" 40 f cdv A outer s H E).xe := owns_cx
  exact s_one (s_ret (e_fun1 hK (pe_callTy b_tuple (by rfl) W.b_tuple boot_tuple (pa_cons (ePE (e_call hK W.f__law_shuffled hr (by rfl) tk (a_cons (e_var (pv 0)) (a_cons (fE (f_listRg1 hK (by rfl) (by rfl) W.b_list (by rfl) W.b_range (e_var (pv 1)) (by rfl) (by rfl))) (a_nil) (by rfl)) (by rfl)) (by rfl) (by rfl) (by rfl))) (pa_nil)))))
theorem p__law_surface (W : Wd P w K mg base S k C) (hK : K = S.K) {f : Addr} {cdv : Value} {A : Around} {outer : List Env} {s : Shared} {H : Hp} {E : XK} (hr2 : Room (k + 2) (A.deeper (envOfC "_law_surface" (defScope (top 41)) s.heap.objs.size f cdv))) : PSs (cxI P w K mg base N__law_surface "_law_surface" 41 f cdv A outer s H E) (defBody (top 41)) (rdS S C E c__law_surface) := by
  have hr := hr2.mono (Nat.le_add_right k 2)
  have hu := hu_of hr
  have hN : N__law_surface.Nodup := by decide +kernel
  have tk : Takes (cxI P w K mg base N__law_surface "_law_surface" 41 f cdv A outer s H E) (fun cls d _ H => E cls d H) := takes_cx
  have hp : PassesOwn (model P w) (cxI P w K mg base N__law_surface "_law_surface" 41 f cdv A outer s H E).A (cxI P w K mg base N__law_surface "_law_surface" 41 f cdv A outer s H E).env (cxI P w K mg base N__law_surface "_law_surface" 41 f cdv A outer s H E).xe := owns_cx
  exact s_cons (s_set (ps_set hN (by rfl) (by first | exact .inl rfl | exact .inr rfl) (zE (e_ifExp (t_cmp hK hu (ePE (e_call hK W.f__law_take hr (by rfl) tk (a_cons (e_var (pv 0)) (a_cons (e_int) (a_nil) (by rfl)) (by rfl)) (by rfl) (by rfl) (by rfl))) (ePE (e_int)) (nobehind _ (by decide) (by decide))) (e_bin hK (v_bin _) (ePE (e_int)) (ePE (e_call hK W.f__law_take hr (by rfl) tk (a_cons (e_var (pv 0)) (a_cons (e_var (pv 1)) (a_nil) (by rfl)) (by rfl)) (by rfl) (by rfl) (by rfl)))) (e_bin hK (v_bin _) (p_peek (pv 1)) (ePE (e_call hK W.f__law_take hr (by rfl) tk (a_cons (e_var (pv 0)) (a_cons (e_fun2 hK (pe_callB (b_min2 (by rfl)) (by rfl) W.b_min boot_min (pa_cons (ePE (e_int)) (pa_cons (p_peek (pv 1)) (pa_nil))))) (a_nil) (by rfl)) (by rfl)) (by rfl) (by rfl) (by rfl)))))))) (s_cons (s_if (PW.pt (w_and (t_cmp hK hu (p_peek (pv 2)) (ePE (e_int)) (nobehind _ (by decide) (by decide))) (pw_and1 (t_cmp hK hu (ePE (e_call hK W.f__law_take hr (by rfl) tk (a_cons (e_var (pv 0)) (a_cons (e_int) (a_nil) (by rfl)) (by rfl)) (by rfl) (by rfl) (by rfl))) (ePE (e_int)) (nobehind _ (by decide) (by decide)))))) (s_cons (s_set (ps_set hN (by rfl) (by first | exact .inl rfl | exact .inr rfl) (zE (fE (f_lst hK (a_cons (e_tup hK (a_cons (e_tup hK (a_cons (e_int) (a_cons (e_int) (a_cons (e_int) (a_cons (e_int) (a_cons (e_int) (a_nil) (by rfl)) (by rfl)) (by rfl)) (by rfl)) (by rfl))) (a_cons (e_tup hK (a_cons (e_int) (a_cons (e_int) (a_cons (e_int) (a_cons (e_int) (a_cons (e_int) (a_nil) (by rfl)) (by rfl)) (by rfl)) (by rfl)) (by rfl))) (a_nil) (by rfl)) (by rfl))) (a_cons (e_tup hK (a_cons (e_tup hK (a_cons (e_int) (a_cons (e_int) (a_cons (e_int) (a_cons (e_int) (a_cons (e_int) (a_nil) (by rfl)) (by rfl)) (by rfl)) (by rfl)) (by rfl))) (a_cons (e_tup hK (a_cons (e_int) (a_cons (e_int) (a_cons (e_int) (a_cons (e_int) (a_cons (e_int) (a_nil) (by rfl)) (by rfl)) (by rfl)) (by rfl)) (by rfl))) (a_nil) (by rfl)) (by rfl))) (a_nil) (by rfl)) (by rfl))))))) (s_cons (s_set (ps_set hN (by rfl) (by first | exact .inl rfl | exact .inr rfl) (zE (fE (f_lst hK (a_cons (e_tup hK (a_cons (e_tup hK (a_cons (e_int) (a_cons (e_int) (a_cons (e_int) (a_cons (e_int) (a_cons (e_int) (a_cons (e_int) (a_nil) (by rfl)) (by rfl)) (by rfl)) (by rfl)) (by rfl)) (by rfl))) (a_cons (e_tup hK (a_cons (e_int) (a_cons (e_int) (a_cons (e_int) (a_cons (e_int) (a_cons (e_int) (a_cons (e_int) (a_nil) (by rfl)) (by rfl)) (by rfl)) (by rfl)) (by rfl)) (by rfl))) (a_nil) (by rfl)) (by rfl))) (a_cons (e_tup hK (a_cons (e_tup hK (a_cons (e_int) (a_cons (e_int) (a_cons (e_int) (a_cons (e_int) (a_cons (e_int) (a_cons (e_int) (a_nil) (by rfl)) (by rfl)) (by rfl)) (by rfl)) (by rfl)) (by rfl))) (a_cons (e_tup hK (a_cons (e_int) (a_cons (e_int) (a_cons (e_int) (a_cons (e_int) (a_cons (e_int) (a_cons (e_int) (a_nil) (by rfl)) (by rfl)) (by rfl)) (by rfl)) (by rfl)) (by rfl))) (a_nil) (by rfl)) (by rfl))) (a_nil) (by rfl)) (by rfl))))))) (s_cons (s_set (ps_set hN (by rfl) (by first | exact .inl rfl | exact .inr rfl) (zE (e_call hK W.f__law_pick hr (by rfl) tk (a_cons (e_var (pv 0)) (a_cons (e_ifExp (t_cmp hK hu (p_peek (pv 2)) (ePE (e_int)) (nobehind _ (by decide) (by decide))) (e_var (pv 5)) (e_var (pv 6))) (a_nil) (by rfl)) (by rfl)) (by rfl) (by rfl) (by rfl))))) (s_one (s_ret (e_call hK W.f__law_renamed hr (by rfl) tk (a_cons (e_var (pv 7)) (a_cons (e_call hK W.f__law_naming hr (by rfl) tk (a_cons (e_var (pv 0)) (a_cons (e_var (pv 2)) (a_nil) (by rfl)) (by rfl)) (by rfl) (by rfl) (by rfl)) (a_nil) (by rfl)) (by rfl)) (by rfl) (by rfl) (by rfl))))))) (s_nil)) (s_cons (s_for hp (by rfl) (i_rng1 hK (by rfl) W.b_range (by rfl) (e_int)) (g_name (pg_name hN (i := 3) (by rfl) (by first | exact .inl rfl | exact .inr rfl))) (s_cons (s_set (ps_set hN (by rfl) (by first | exact .inl rfl | exact .inr rfl) (zE (e_tup hK (a_cons (e_call hK W.f__law_naming hr (by rfl) tk (a_cons (e_var (pv 0)) (a_cons (e_var (pv 2)) (a_nil) (by rfl)) (by rfl)) (by rfl) (by rfl) (by rfl)) (a_cons (e_call hK W.f__law_naming hr (by rfl) tk (a_cons (e_var (pv 0)) (a_cons (e_var (pv 2)) (a_nil) (by rfl)) (by rfl)) (by rfl) (by rfl) (by rfl)) (a_nil) (by rfl)) (by rfl)))))) (s_one (s_if (t_val (e_call hK W.f__law_hangs hr (by rfl) tk (a_cons (e_ix hK hu (p_peek (pv 8)) (ePE (e_int)) (by intro _ _; rfl)) (a_cons (e_ix hK hu (p_peek (pv 8)) (ePE (e_int)) (by intro _ _; rfl)) (a_nil) (by rfl)) (by rfl)) (by rfl) (by rfl) (by rfl)) (by intro _; rfl)) (s_one (s_ret (e_var (pv 8)))) (s_nil)))) (by intro _; rfl)) (s_cons (s_set (ps_set hN (by rfl) (by first | exact .inl rfl | exact .inr rfl) (zE (e_fun1 hK (pe_callTy b_tuple (by rfl) W.b_tuple boot_tuple (pa_cons (ePE (e_bin hK (v_bin _) (ePE (fE (f_listRg2 hK (by rfl) (by rfl) W.b_list (by rfl) W.b_range (e_int) (e_var (pv 2)) (by rfl) (by rfl) (by rfl) (by rfl)))) (ePE (fE (f_lst hK (a_cons (e_int) (a_nil) (by rfl))))))) (pa_nil))))))) (s_one (s_ret (e_call hK W.f__law_renamed hr (by rfl) tk (a_cons (e_tup hK (a_cons (e_var (pv 4)) (a_cons (e_call hK W.f__law_naming hr (by rfl) tk (a_cons (e_var (pv 0)) (a_cons (e_var (pv 2)) (a_nil) (by rfl)) (by rfl)) (by rfl) (by rfl) (by rfl)) (a_nil) (by rfl)) (by rfl))) (a_cons (e_call hK W.f__law_naming hr (by rfl) tk (a_cons (e_var (pv 0)) (a_cons (e_var (pv 2)) (a_nil) (by rfl)) (by rfl)) (by rfl) (by rfl) (by rfl)) (a_nil) (by rfl)) (by rfl)) (by rfl) (by rfl) (by rfl)))))))
theorem p__law_small_row (W : Wd P w K mg base S k C) (hK : K = S.K) {f : Addr} {cdv : Value} {A : Around} {outer : List Env} {s : Shared} {H : Hp} {E : XK} (hr2 : Room (k + 2) (A.deeper (envOfC "_law_small_row" (defScope (top 42)) s.heap.objs.size f cdv))) : PSs (cxI P w K mg base N__law_small_row "_law_small_row" 42 f cdv A outer s H E) (defBody (top 42)) (rdS S C E c__law_small_row) := by
  have hr := hr2.mono (Nat.le_add_right k 2)
  have hu := hu_of hr
  have hN : N__law_small_row.Nodup := by decide +kernel
  have tk : Takes (cxI P w K mg base N__law_small_row "_law_small_row" 42 f cdv A outer s H E) (fun cls d _ H => E cls d H) := takes_cx
  have hp : PassesOwn (model P w) (cxI P w K mg base N__law_small_row "_law_small_row" 42 f cdv A outer s H E).A (cxI P w K mg base N__law_small_row "_law_small_row" 42 f cdv A outer s H E).env (cxI P w K mg base N__law_small_row "_law_small_row" 42 f cdv A outer s H E).xe := owns_cx
  exact s_one (s_ret (e_fun1 hK (pe_callTy b_tuple (by rfl) W.b_tuple boot_tuple (pa_cons (ePE (fE (f_lc (own := [("lap", 2)]) hK (by rfl) hN (i_weak (i_rng1 hK (by rfl) W.b_range (by rfl) (e_call hK W.f__law_take hr (by rfl) tk (a_cons (e_var (pv 0)) (a_cons (e_bin hK (v_bin _) (p_peek (pv 1)) (ePE (e_int))) (a_nil) (by rfl)) (by rfl)) (by rfl) (by rfl) (by rfl)))) (blk_of (own := [("lap", 2)]) (by kernel_rfl)) (by decide) (fun _ _ _ _ _ => g_name (pg_name hN (i := 2) (by rfl) (by first | exact .inl rfl | exact .inr rfl))) (fun _ _ _ _ _ => ts_nil) (fun _ _ _ _ _ => e_call hK W.f__law_pick hr (by rfl) takes_F (a_cons (e_var (pv 0)) (a_cons (fE (f_lst hK (a_cons (e_tup hK (a_cons (e_str) (a_cons (e_int) (a_nil) (by rfl)) (by rfl))) (a_cons (e_tup hK (a_cons (e_str) (a_cons (e_neg (e_int)) (a_nil) (by rfl)) (by rfl))) (a_cons (e_tup hK (a_cons (e_str) (a_cons (e_int) (a_nil) (by rfl)) (by rfl))) (a_nil) (by rfl)) (by rfl)) (by rfl)))) (a_nil) (by rfl)) (by rfl)) (by rfl) (by rfl) (by rfl)) (by intro _; rfl)))) (pa_nil)))))
theorem p__law_no_surface (W : Wd P w K mg base S k C) (hK : K = S.K) {f : Addr} {cdv : Value} {A : Around} {outer : List Env} {s : Shared} {H : Hp} {E : XK} (hr2 : Room (k + 2) (A.deeper (envOfC "_law_no_surface" (defScope (top 43)) s.heap.objs.size f cdv))) : PSs (cxI P w K mg base N__law_no_surface "_law_no_surface" 43 f cdv A outer s H E) (defBody (top 43)) (rdS S C E c__law_no_surface) := by
  have hr := hr2.mono (Nat.le_add_right k 2)
  have hu := hu_of hr
  have hN : N__law_no_surface.Nodup := by decide +kernel
  have tk : Takes (cxI P w K mg base N__law_no_surface "_law_no_surface" 43 f cdv A outer s H E) (fun cls d _ H => E cls d H) := takes_cx
  have hp : PassesOwn (model P w) (cxI P w K mg base N__law_no_surface "_law_no_surface" 43 f cdv A outer s H E).A (cxI P w K mg base N__law_no_surface "_law_no_surface" 43 f cdv A outer s H E).env (cxI P w K mg base N__law_no_surface "_law_no_surface" 43 f cdv A outer s H E).xe := owns_cx
  exact s_cons (s_set (ps_set hN (by rfl) (by first | exact .inl rfl | exact .inr rfl) (zE (fE (f_lst hK (a_cons (e_non) (a_cons (e_int) (a_cons (e_tup hK (a_nil)) (a_cons (e_tup hK (a_cons (e_tup hK (a_cons (e_int) (a_nil) (by rfl))) (a_nil) (by rfl))) (a_cons (e_tup hK (a_cons (e_tup hK (a_cons (e_int) (a_cons (e_int) (a_nil) (by rfl)) (by rfl))) (a_cons (e_tup hK (a_cons (e_int) (a_cons (e_int) (a_nil) (by rfl)) (by rfl))) (a_nil) (by rfl)) (by rfl))) (a_cons (e_tup hK (a_cons (e_tup hK (a_cons (e_int) (a_cons (e_int) (a_nil) (by rfl)) (by rfl))) (a_cons (e_tup hK (a_cons (e_int) (a_nil) (by rfl))) (a_nil) (by rfl)) (by rfl))) (a_cons (fE (f_lst hK (a_cons (e_tup hK (a_cons (e_int) (a_nil) (by rfl))) (a_cons (e_tup hK (a_cons (e_int) (a_nil) (by rfl))) (a_nil) (by rfl)) (by rfl)))) (a_cons (e_tup hK (a_cons (e_tup hK (a_cons (e_int) (a_nil) (by rfl))) (a_cons (fE (f_lst hK (a_cons (e_int) (a_nil) (by rfl)))) (a_nil) (by rfl)) (by rfl))) (a_cons (e_tup hK (a_cons (e_tup hK (a_cons (e_int) (a_cons (e_int) (a_nil) (by rfl)) (by rfl))) (a_cons (e_tup hK (a_cons (e_int) (a_cons (e_int) (a_nil) (by rfl)) (by rfl))) (a_nil) (by rfl)) (by rfl))) (a_cons (e_tup hK (a_cons (e_tup hK (a_cons (e_int) (a_cons (e_int) (a_nil) (by rfl)) (by rfl))) (a_cons (e_tup hK (a_cons (e_int) (a_cons (e_int) (a_nil) (by rfl)) (by rfl))) (a_nil) (by rfl)) (by rfl))) (a_cons (e_tup hK (a_cons (e_tup hK (a_cons (e_bl) (a_nil) (by rfl))) (a_cons (e_tup hK (a_cons (e_int) (a_nil) (by rfl))) (a_nil) (by rfl)) (by rfl))) (a_cons (e_str) (a_nil) (by rfl)) (by rfl)) (by rfl)) (by rfl)) (by rfl)) (by rfl)) (by rfl)) (by rfl)) (by rfl)) (by rfl)) (by rfl)) (by rfl))))))) (s_one (s_ret (e_call hK W.f__law_pick hr (by rfl) tk (a_cons (e_var (pv 0)) (a_cons (e_bin hK (v_bin _) (p_peek (pv 1)) (ePE (fE (f_lst hK (a_cons (e_tup hK (a_cons (e_fun1 hK (pe_callTy b_tuple (by rfl) W.b_tuple boot_tuple (pa_cons (ePE (fE (f_lst hK (a_cons (e_int) (a_cons (e_int) (a_cons (e_int) (a_cons (e_int) (a_cons (e_int) (a_cons (e_int) (a_cons (e_int) (a_nil) (by rfl)) (by rfl)) (by rfl)) (by rfl)) (by rfl)) (by rfl)) (by rfl))))) (pa_nil)))) (a_cons (e_tupRg1 hK (by rfl) (by rfl) W.b_tuple (by rfl) W.b_range (e_int) (by rfl) (by rfl)) (a_nil) (by rfl)) (by rfl))) (a_cons (e_tup hK (a_cons (e_tup hK (a_nil)) (a_cons (e_tup hK (a_nil)) (a_nil) (by rfl)) (by rfl))) (a_cons (e_tup hK (a_cons (e_tup hK (a_cons (e_int) (a_nil) (by rfl))) (a_cons (e_tup hK (a_cons (e_int) (a_nil) (by rfl))) (a_cons (e_tup hK (a_cons (e_int) (a_nil) (by rfl))) (a_nil) (by rfl)) (by rfl)) (by rfl))) (a_nil) (by rfl)) (by rfl)) (by rfl)))))) (a_nil) (by rfl)) (by rfl)) (by rfl) (by rfl) (by rfl))))
theorem p__law_halves (W : Wd P w K mg base S k C) (hK : K = S.K) {f : Addr} {cdv : Value} {A : Around} {outer : List Env} {s : Shared} {H : Hp} {E : XK} (hr2 : Room (k + 2) (A.deeper (envOfC "_law_halves" (defScope (top 44)) s.heap.objs.size f cdv))) : PSs (cxI P w K mg base N__law_halves "_law_halves" 44 f cdv A outer s H E) (defBody (top 44)) (rdS S C E c__law_halves) := by
  have hr := hr2.mono (Nat.le_add_right k 2)
  have hu := hu_of hr
  have hN : N__law_halves.Nodup := by decide +kernel
  have tk : Takes (cxI P w K mg base N__law_halves "_law_halves" 44 f cdv A outer s H E) (fun cls d _ H => E cls d H) := takes_cx
  have hp : PassesOwn (model P w) (cxI P w K mg base N__law_halves "_law_halves" 44 f cdv A outer s H E).A (cxI P w K mg base N__law_halves "_law_halves" 44 f cdv A outer s H E).env (cxI P w K mg base N__law_halves "_law_halves" 44 f cdv A outer s H E).xe := owns_cx
  exact s_one (s_ret (e_call hK W.f__law_renamings hr (by rfl) tk (a_cons (e_var (pv 0)) (a_cons (e_fun1 hK (pe_callTy b_tuple (by rfl) W.b_tuple boot_tuple (pa_cons (ePE (fE (f_lc (own := [("naming", 1)]) hK (by rfl) hN (i_peek hK (p_peek (pv 0))) (blk_of (own := [("naming", 1)]) (by kernel_rfl)) (by decide) (fun _ _ _ _ _ => g_name (pg_name hN (i := 1) (by rfl) (by first | exact .inl rfl | exact .inr rfl))) (fun _ _ _ _ _ => ts_nil) (fun _ _ _ _ _ => e_call hK W.f__law_back hr (by rfl) takes_F (a_cons (e_var (pv 1)) (a_nil) (by rfl)) (by rfl) (by rfl) (by rfl)) (by intro _; rfl)))) (pa_nil)))) (a_nil) (by rfl)) (by rfl)) (by rfl) (by rfl) (by rfl)))
theorem p__law_namings (W : Wd P w K mg base S k C) (hK : K = S.K) {f : Addr} {cdv : Value} {A : Around} {outer : List Env} {s : Shared} {H : Hp} {E : XK} (hr2 : Room (k + 2) (A.deeper (envOfC "_law_namings" (defScope (top 45)) s.heap.objs.size f cdv))) : PSs (cxI P w K mg base N__law_namings "_law_namings" 45 f cdv A outer s H E) (defBody (top 45)) (rdS S C E c__law_namings) := by
  have hr := hr2.mono (Nat.le_add_right k 2)
  have hu := hu_of hr
  have hN : N__law_namings.Nodup := by decide +kernel
  have tk : Takes (cxI P w K mg base N__law_namings "_law_namings" 45 f cdv A outer s H E) (fun cls d _ H => E cls d H) := takes_cx
  have hp : PassesOwn (model P w) (cxI P w K mg base N__law_namings "_law_namings" 45 f cdv A outer s H E).A (cxI P w K mg base N__law_namings "_law_namings" 45 f cdv A outer s H E).env (cxI P w K mg base N__law_namings "_law_namings" 45 f cdv A outer s H E).xe := owns_cx
  exact s_cons (s_set (ps_set hN (by rfl) (by first | exact .inl rfl | exact .inr rfl) (zE (fE (f_lst hK (a_cons (e_tup hK (a_nil)) (a_nil) (by rfl))))))) (s_cons (s_for hp (by rfl) (i_rng1 hK (by rfl) W.b_range (by rfl) (e_var (pv 0))) (g_name (pg_name hN (i := 2) (by rfl) (by first | exact .inl rfl | exact .inr rfl))) (s_one (s_set (ps_set hN (by rfl) (by first | exact .inl rfl | exact .inr rfl) (zE (e_fun2 hK (pe_callB (b_sumL (by rfl)) (by rfl) W.b_sum boot_sum (pa_cons (ePE (fE (f_lc (own := [("line", 3)]) hK (by rfl) hN (i_peek hK (p_peek (pv 1))) (blk_of (own := [("line", 3)]) (by kernel_rfl)) (by decide) (fun _ _ _ _ _ => g_name (pg_name hN (i := 3) (by rfl) (by first | exact .inl rfl | exact .inr rfl))) (fun _ _ _ _ _ => ts_nil) (fun _ _ _ _ _ => fE (f_lc (own := [("item", 4)]) hK (by rfl) hN (i_weak (i_rng1 hK (by rfl) W.b_range (by rfl) (e_var (pv 0)))) (blk_of (own := [("item", 4)]) (by kernel_rfl)) (by decide) (fun _ _ _ _ _ => g_name (pg_name hN (i := 4) (by rfl) (by first | exact .inl rfl | exact .inr rfl))) (fun _ _ _ _ _ => ts_one (t_cmp hK hu (p_peek (pv 4)) (p_peek (pv 3)) ((by rfl)))) (fun _ _ _ _ _ => e_bin hK (v_bin _) (p_peek (pv 3)) (ePE (e_tup hK (a_cons (e_var (pv 4)) (a_nil) (by rfl))))) (by intro _; rfl))) (by intro _; rfl)))) (pa_cons (ePE (fE (f_lst hK (a_nil)))) (pa_nil))))))))) (by intro _; rfl)) (s_one (s_ret (e_var (pv 1)))))
theorem p__law_right (W : Wd P w K mg base S k C) (hK : K = S.K) {f : Addr} {cdv : Value} {A : Around} {outer : List Env} {s : Shared} {H : Hp} {E : XK} (hcode : cdv = .ref (He.codeOf K ("_law_right", none))) (hr2 : Room (k + 2) (A.deeper (envOfC "_law_right" (defScope (top 46)) s.heap.objs.size f cdv))) : PSs (cxI P w K mg base N__law_right "_law_right" 46 f cdv A outer s H E) (defBody (top 46)) (rdS S C E c__law_right) := by
  have hr := hr2.mono (Nat.le_add_right k 2)
  have hu := hu_of hr
  have hN : N__law_right.Nodup := by decide +kernel
  have tk : Takes (cxI P w K mg base N__law_right "_law_right" 46 f cdv A outer s H E) (fun cls d _ H => E cls d H) := takes_cx
  have hp : PassesOwn (model P w) (cxI P w K mg base N__law_right "_law_right" 46 f cdv A outer s H E).A (cxI P w K mg base N__law_right "_law_right" 46 f cdv A outer s H E).env (cxI P w K mg base N__law_right "_law_right" 46 f cdv A outer s H E).xe := owns_cx
  obtain ⟨fdC, FC⟩ := W.caught
  have hbC : L2.Binds K fdC ["work"] [] := FC.bindsN (fun _ _ _ _ _ _ us hl => match us, hl with | [_], _ => rfl)
  have TB := W.TB
  have hmT := W.hmT
  have hmU := W.hmU
  exact s_cons (s_set (ps_set hN (by rfl) (by first | exact .inl rfl | exact .inr rfl) (zE (e_call hK W.f__law_surface hr (by rfl) tk (a_cons (e_var (pv 0)) (a_cons (e_call hK W.f__law_pick hr (by rfl) tk (a_cons (e_var (pv 0)) (a_cons (fE (f_lst hK (a_cons (e_int) (a_cons (e_int) (a_cons (e_int) (a_cons (e_int) (a_nil) (by rfl)) (by rfl)) (by rfl)) (by rfl)))) (a_nil) (by rfl)) (by rfl)) (by rfl) (by rfl) (by rfl)) (a_nil) (by rfl)) (by rfl)) (by rfl) (by rfl) (by rfl))))) (s_cons (s_par2c hK (ps_asg (pe_tup (pa_cons (zE (e_fun1 hK (pe_callTy b_tuple (by rfl) W.b_tuple boot_tuple (pa_cons (ePE (e_call hK W.f__law_halves hr (by rfl) tk (a_cons (e_var (pv 1)) (a_nil) (by rfl)) (by rfl) (by rfl) (by rfl))) (pa_nil))))) (pa_cons (zE (e_call hK W.f__law_renamings hr (by rfl) tk (a_cons (e_var (pv 1)) (a_cons (e_var (pv 1)) (a_nil) (by rfl)) (by rfl)) (by rfl) (by rfl) (by rfl))) (pa_nil)))) (pg_tup (by rfl) (pgs_cons (pg_name hN (i := 2) (by rfl) (by first | exact .inl rfl | exact .inr rfl)) (pgs_cons (pg_name hN (i := 3) (by rfl) (by first | exact .inl rfl | exact .inr rfl)) (pgs_nil)))))) (s_cons (s_if (PW.pt (w_or (t_not (t_val (e_call hK W.f__law_says hr (by rfl) tk (a_cons (fE (f_lst hK (a_cons (e_call hK W.f_half_turns hr (by rfl) tk (a_cons (e_var (pv 1)) (a_nil) (by rfl)) (by rfl) (by rfl) (by rfl)) (a_cons (e_callKw hK W.kw_half_turns_surface hr (by rfl) tk (k_cons (e_var (pv 1)) (k_nil)) (by rfl) (by rfl) (.inr (by rfl)) (by rfl) (by rfl) (by rfl) (by rfl)) (a_nil) (by rfl)) (by rfl)))) (a_cons (fE (f_lst hK (a_cons (e_var (pv 2)) (a_cons (e_var (pv 2)) (a_nil) (by rfl)) (by rfl)))) (a_nil) (by rfl)) (by rfl)) (by rfl) (by rfl) (by rfl)) (by intro _; rfl))) (pw_or1 (t_cmp hK hu (ePE (e_fun1 hK (pe_callB b_len (by rfl) W.b_len boot_len (pa_cons (p_peek (pv 2)) (pa_nil))))) (ePE (fE (f_lst hK (a_cons (e_int) (a_cons (e_fun1 hK (pe_callB b_len (by rfl) W.b_len boot_len (pa_cons (p_peek (pv 3)) (pa_nil)))) (a_nil) (by rfl)) (by rfl))))) ((by rfl)))))) (s_one (s_ret (e_bl))) (s_nil)) (s_cons (s_if (t_cmp hK hu (ePE (e_fun1 hK (pe_callB b_len (by rfl) W.b_len boot_len (pa_cons (ePE (e_ix hK hu (p_peek (pv 1)) (ePE (e_int)) (by intro _ _; rfl))) (pa_nil))))) (ePE (e_int)) (nobehind _ (by decide) (by decide))) (s_cons (s_set (ps_set hN (by rfl) (by first | exact .inl rfl | exact .inr rfl) (zE (e_fun1 hK (pe_callTy b_tuple (by rfl) W.b_tuple boot_tuple (pa_cons (ePE (fE (f_lc (own := [("naming", 9)]) hK (by rfl) hN (i_peek hK (p_peek (pv 1))) (blk_of (own := [("naming", 9)]) (by kernel_rfl)) (by decide) (fun _ _ _ _ _ => g_name (pg_name hN (i := 9) (by rfl) (by first | exact .inl rfl | exact .inr rfl))) (fun _ _ _ _ _ => ts_nil) (fun _ _ _ _ _ => e_call hK W.f__law_back hr (by rfl) takes_F (a_cons (e_var (pv 9)) (a_nil) (by rfl)) (by rfl) (by rfl) (by rfl)) (by intro _; rfl)))) (pa_nil))))))) (s_one (s_if (t_cmp hK hu (ePE (fE (f_fun1 hK (pe_callTy (b_list (by rfl)) (by rfl) W.b_list boot_list (pa_cons (p_peek (pv 2)) (pa_nil)))))) (ePE (fE (f_lc (own := [("names", 5)]) hK (by rfl) hN (i_weak (i_val hK (e_call hK W.f__law_namings hr (by rfl) tk (a_cons (e_fun1 hK (pe_callB b_len (by rfl) W.b_len boot_len (pa_cons (ePE (e_ix hK hu (p_peek (pv 1)) (ePE (e_int)) (by intro _ _; rfl))) (pa_nil)))) (a_nil) (by rfl)) (by rfl) (by rfl) (by rfl)))) (blk_of (own := [("names", 5)]) (by kernel_rfl)) (by decide) (fun _ _ _ _ _ => g_name (pg_name hN (i := 5) (by rfl) (by first | exact .inl rfl | exact .inr rfl))) (fun _ _ _ _ _ => ts_one (t_cmp hK hu (ePE (e_call hK W.f__law_renamed hr (by rfl) takes_F (a_cons (e_var (pv 1)) (a_cons (e_var (pv 5)) (a_nil) (by rfl)) (by rfl)) (by rfl) (by rfl) (by rfl))) (p_peek (pv 7)) (nobehind _ (by decide) (by decide)))) (fun _ _ _ _ _ => e_var (pv 5)) (by intro _; rfl)))) (nobehind _ (by decide) (by decide))) (s_one (s_ret (e_bl))) (s_nil)))) (s_nil)) (s_cons (s_if (t_cmp hK hu (ePE (fE (f_lc (own := [("one", 8)]) hK (by rfl) hN (i_peek hK (p_peek (pv 2))) (blk_of (own := [("one", 8)]) (by kernel_rfl)) (by decide) (fun _ _ _ _ _ => g_name (pg_name hN (i := 8) (by rfl) (by first | exact .inl rfl | exact .inr rfl))) (fun _ _ _ _ _ => ts_one (t_cmp hK hu (ePE (fE (f_lc (own := [("other", 10)]) hK (by rfl) hN (i_peek hK (p_peek (pv 2))) (blk_of (own := [("other", 10)]) (by kernel_rfl)) (by decide) (fun _ _ _ _ _ => g_name (pg_name hN (i := 10) (by rfl) (by first | exact .inl rfl | exact .inr rfl))) (fun _ _ _ _ _ => ts_one (t_cmp hK hu (ePE (e_call hK W.f__law_then hr (by rfl) takes_F (a_cons (e_var (pv 8)) (a_cons (e_var (pv 10)) (a_nil) (by rfl)) (by rfl)) (by rfl) (by rfl) (by rfl))) (p_peek (pv 3)) ((by rfl)))) (fun _ _ _ _ _ => e_var (pv 10)) (by intro _; rfl)))) (ePE (fE (f_lst hK (a_nil)))) (nobehind _ (by decide) (by decide)))) (fun _ _ _ _ _ => e_var (pv 8)) (by intro _; rfl)))) (ePE (fE (f_lst hK (a_nil)))) (nobehind _ (by decide) (by decide))) (s_one (s_ret (e_bl))) (s_nil)) (s_cons (s_par2c hK (ps_asg (pe_tup (pa_cons (zE (e_call hK W.f__law_moved hr (by rfl) tk (a_cons (e_var (pv 1)) (a_cons (e_call hK W.f__law_small_row hr (by rfl) tk (a_cons (e_var (pv 0)) (a_cons (e_int) (a_nil) (by rfl)) (by rfl)) (by rfl) (by rfl) (by rfl)) (a_nil) (by rfl)) (by rfl)) (by rfl) (by rfl) (by rfl))) (pa_cons (zE (e_call hK W.f__law_naming hr (by rfl) tk (a_cons (e_var (pv 0)) (a_cons (e_fun1 hK (pe_callB b_len (by rfl) W.b_len boot_len (pa_cons (ePE (e_ix hK hu (p_peek (pv 1)) (ePE (e_int)) (by intro _ _; rfl))) (pa_nil)))) (a_nil) (by rfl)) (by rfl)) (by rfl) (by rfl) (by rfl))) (pa_nil)))) (pg_tup (by rfl) (pgs_cons (pg_name hN (i := 4) (by rfl) (by first | exact .inl rfl | exact .inr rfl)) (pgs_cons (pg_name hN (i := 5) (by rfl) (by first | exact .inl rfl | exact .inr rfl)) (pgs_nil)))))) (s_cons (s_if (t_cmp hK hu (ePE (e_fun1 hK (pe_callB b_len (by rfl) W.b_len boot_len (pa_cons (ePE (e_call hK W.f_half_turns hr (by rfl) tk (a_cons (e_var (pv 4)) (a_nil) (by rfl)) (by rfl) (by rfl) (by rfl))) (pa_nil))))) (ePE (e_fun1 hK (pe_callB b_len (by rfl) W.b_len boot_len (pa_cons (p_peek (pv 2)) (pa_nil))))) (nobehind _ (by decide) (by decide))) (s_one (s_ret (e_bl))) (s_nil)) (s_cons (s_set (ps_set hN (by rfl) (by first | exact .inl rfl | exact .inr rfl) (zE (fE (f_fun1 hK (pe_callB (b_sorted (by rfl) hu) (by rfl) W.b_sorted boot_sorted (pa_cons (ePE (fE (f_lc (own := [("naming", 9)]) hK (by rfl) hN (i_peek hK (p_peek (pv 2))) (blk_of (own := [("naming", 9)]) (by kernel_rfl)) (by decide) (fun _ _ _ _ _ => g_name (pg_name hN (i := 9) (by rfl) (by first | exact .inl rfl | exact .inr rfl))) (fun _ _ _ _ _ => ts_nil) (fun _ _ _ _ _ => e_call hK W.f__law_then hr (by rfl) takes_F (a_cons (e_call hK W.f__law_then hr (by rfl) takes_F (a_cons (e_call hK W.f__law_back hr (by rfl) takes_F (a_cons (e_var (pv 5)) (a_nil) (by rfl)) (by rfl) (by rfl) (by rfl)) (a_cons (e_var (pv 9)) (a_nil) (by rfl)) (by rfl)) (by rfl) (by rfl) (by rfl)) (a_cons (e_var (pv 5)) (a_nil) (by rfl)) (by rfl)) (by rfl) (by rfl) (by rfl)) (by intro _; rfl)))) (pa_nil)))))))) (s_one (s_ret (e_and (e_cmp hK hu (ePE (fE (f_fun1 hK (pe_callTy (b_list (by rfl)) (by rfl) W.b_list boot_list (pa_cons (ePE (e_call hK W.f_half_turns hr (by rfl) tk (a_cons (e_call hK W.f__law_renamed hr (by rfl) tk (a_cons (e_var (pv 1)) (a_cons (e_var (pv 5)) (a_nil) (by rfl)) (by rfl)) (by rfl) (by rfl) (by rfl)) (a_nil) (by rfl)) (by rfl) (by rfl) (by rfl))) (pa_nil)))))) (p_peek (pv 6)) (nobehind _ (by decide) (by decide))) (pe_one (e_isCls hK (pe_callB (call_isCls (sub_of (i := 1) W.cl W.hcls (by rfl))) (by rfl) W.b_isinstance boot_isinstance (pa_cons (e_caught hK (exm_of W.cl W.hcls) FC (by rfl) W.g__law_caught scC hbC (by rfl) (by rfl) (by rfl) (by rfl) (by rfl) (by rfl) W.g_SquareError TB hcode hmT hmU hr2 (LamX.lamS_by (by rfl)) (by rfl) (fun _ _ _ _ _ => (by rfl)) (fun A2 outer2 s2 H2 E2 f2 c2 hr => lamB hr fun hu tk => (e_call hK W.f_half_turns hr (by rfl) tk (a_cons (e_call hK W.f__law_no_surface hr (by rfl) tk (a_cons (e_var (pv 0)) (a_nil) (by rfl)) (by rfl) (by rfl) (by rfl)) (a_nil) (by rfl)) (by rfl) (by rfl) (by rfl)))) (pa_cons (pe_glob (v := .ref _) (by rfl) W.g_BadSurface (by rfl) (by rfl)) pa_nil)))))))))))))))
end
def N_law : List Str := ["script", "draw", "lap"]
noncomputable def c_law : DS := dSeq (dFor (dRng1 (dBin .Add (dC (.int 4)) (dFun2 sMin2 (dFun1 sLen (dPeek 0)) (dC (.int 9))))) (.n 2) (dIfS (dNot (dTst (dCall i__law_right (dCons (dVar 1) (dNil))))) (dRet (dC (.bl false))) (dNop))) (dRet (dCall i__law_says (dCons (dLst (dCons (dCall i_half_turns (dCons (dTup (dCons (dTup (dCons (dC (.int 1)) (dCons (dC (.int 0)) (dCons (dC (.int 2)) (dNil))))) (dCons (dTup (dCons (dC (.int 2)) (dCons (dC (.int 1)) (dCons (dC (.int 0)) (dNil))))) (dNil)))) (dNil))) (dCons (dCall i_half_turns (dCons (dTup (dCons (dTup (dCons (dC (.int 0)) (dNil))) (dCons (dTup (dCons (dC (.int 0)) (dNil))) (dNil)))) (dNil))) (dCons (dFun1 sLen (dCall i_half_turns (dCons (dTup (dCons (dTup (dCons (dC (.int 1)) (dCons (dC (.int 2)) (dCons (dC (.int 0)) (dNil))))) (dCons (dTup (dCons (dC (.int 0)) (dCons (dC (.int 1)) (dCons (dC (.int 2)) (dNil))))) (dNil)))) (dNil)))) (dNil))))) (dCons (dLst (dCons (dTup (dCons (dTup (dCons (dC (.int 0)) (dCons (dC (.int 1)) (dCons (dC (.int 2)) (dNil))))) (dNil))) (dCons (dTup (dCons (dTup (dCons (dC (.int 0)) (dNil))) (dNil))) (dCons (dC (.int 3)) (dNil))))) (dNil)))))
noncomputable def tbl : List (Option (Nat × Nat × DS)) := [some (1, 1, c_is_number), some (3, 2, c_is_naming), some (3, 2, c_then_by), some (4, 1, c_back_by), some (6, 2, c_reached), some (2, 1, c_is_surface_of), some (1, 1, c_need_surface), some (4, 2, c_renamed_by), some (8, 2, c_walk_by), some (6, 2, c_renamings_by), some (3, 2, c_turned_by), some (1, 1, c_half_by), some (1, 1, c_half_turns), some (6, 1, c__law_mixed), some (3, 2, c__law_take), some (2, 2, c__law_pick), some (4, 2, c__law_shuffled), some (8, 1, c__law_kinds), some (2, 2, c__law_says), some (3, 2, c__law_then), some (2, 1, c__law_back), some (5, 2, c__law_power), some (6, 2, c__law_hangs), some (5, 2, c__law_renamed), some (7, 2, c__law_walk), some (6, 2, c__law_renamings), some (2, 2, c__law_sheared), some (4, 2, c__law_turned), some (5, 2, c__law_moved), some (2, 2, c__law_naming), some (9, 2, c__law_surface), some (3, 2, c__law_small_row), some (2, 1, c__law_no_surface), some (2, 1, c__law_halves), some (5, 1, c__law_namings), some (11, 1, c__law_right)]
noncomputable def callR : Nat → Nat → List D → M D
  | 0, _ => fun _ _ => .fail
  | k + 1, n => match tbl[n]? with
    | some (some (a, b, c)) => runF a b c ⟨callR k⟩
    | _ => fun _ _ => .fail
theorem cnR_is_number (k : Nat) : callR (k + 1) i_is_number = runF 1 1 c_is_number ⟨callR k⟩ := rfl
theorem cnR_is_naming (k : Nat) : callR (k + 1) i_is_naming = runF 3 2 c_is_naming ⟨callR k⟩ := rfl
theorem cnR_then_by (k : Nat) : callR (k + 1) i_then_by = runF 3 2 c_then_by ⟨callR k⟩ := rfl
theorem cnR_back_by (k : Nat) : callR (k + 1) i_back_by = runF 4 1 c_back_by ⟨callR k⟩ := rfl
theorem cnR_reached (k : Nat) : callR (k + 1) i_reached = runF 6 2 c_reached ⟨callR k⟩ := rfl
theorem cnR_is_surface_of (k : Nat) : callR (k + 1) i_is_surface_of = runF 2 1 c_is_surface_of ⟨callR k⟩ := rfl
theorem cnR_need_surface (k : Nat) : callR (k + 1) i_need_surface = runF 1 1 c_need_surface ⟨callR k⟩ := rfl
theorem cnR_renamed_by (k : Nat) : callR (k + 1) i_renamed_by = runF 4 2 c_renamed_by ⟨callR k⟩ := rfl
theorem cnR_walk_by (k : Nat) : callR (k + 1) i_walk_by = runF 8 2 c_walk_by ⟨callR k⟩ := rfl
theorem cnR_renamings_by (k : Nat) : callR (k + 1) i_renamings_by = runF 6 2 c_renamings_by ⟨callR k⟩ := rfl
theorem cnR_turned_by (k : Nat) : callR (k + 1) i_turned_by = runF 3 2 c_turned_by ⟨callR k⟩ := rfl
theorem cnR_half_by (k : Nat) : callR (k + 1) i_half_by = runF 1 1 c_half_by ⟨callR k⟩ := rfl
theorem cnR_half_turns (k : Nat) : callR (k + 1) i_half_turns = runF 1 1 c_half_turns ⟨callR k⟩ := rfl
theorem cnR__law_mixed (k : Nat) : callR (k + 1) i__law_mixed = runF 6 1 c__law_mixed ⟨callR k⟩ := rfl
theorem cnR__law_take (k : Nat) : callR (k + 1) i__law_take = runF 3 2 c__law_take ⟨callR k⟩ := rfl
theorem cnR__law_pick (k : Nat) : callR (k + 1) i__law_pick = runF 2 2 c__law_pick ⟨callR k⟩ := rfl
theorem cnR__law_shuffled (k : Nat) : callR (k + 1) i__law_shuffled = runF 4 2 c__law_shuffled ⟨callR k⟩ := rfl
theorem cnR__law_kinds (k : Nat) : callR (k + 1) i__law_kinds = runF 8 1 c__law_kinds ⟨callR k⟩ := rfl
theorem cnR__law_says (k : Nat) : callR (k + 1) i__law_says = runF 2 2 c__law_says ⟨callR k⟩ := rfl
theorem cnR__law_then (k : Nat) : callR (k + 1) i__law_then = runF 3 2 c__law_then ⟨callR k⟩ := rfl
theorem cnR__law_back (k : Nat) : callR (k + 1) i__law_back = runF 2 1 c__law_back ⟨callR k⟩ := rfl
theorem cnR__law_power (k : Nat) : callR (k + 1) i__law_power = runF 5 2 c__law_power ⟨callR k⟩ := rfl
theorem cnR__law_hangs (k : Nat) : callR (k + 1) i__law_hangs = runF 6 2 c__law_hangs ⟨callR k⟩ := rfl
theorem cnR__law_renamed (k : Nat) : callR (k + 1) i__law_renamed = runF 5 2 c__law_renamed ⟨callR k⟩ := rfl
theorem cnR__law_walk (k : Nat) : callR (k + 1) i__law_walk = runF 7 2 c__law_walk ⟨callR k⟩ := rfl
theorem cnR__law_renamings (k : Nat) : callR (k + 1) i__law_renamings = runF 6 2 c__law_renamings ⟨callR k⟩ := rfl
theorem cnR__law_sheared (k : Nat) : callR (k + 1) i__law_sheared = runF 2 2 c__law_sheared ⟨callR k⟩ := rfl
theorem cnR__law_turned (k : Nat) : callR (k + 1) i__law_turned = runF 4 2 c__law_turned ⟨callR k⟩ := rfl
theorem cnR__law_moved (k : Nat) : callR (k + 1) i__law_moved = runF 5 2 c__law_moved ⟨callR k⟩ := rfl
theorem cnR__law_naming (k : Nat) : callR (k + 1) i__law_naming = runF 2 2 c__law_naming ⟨callR k⟩ := rfl
theorem cnR__law_surface (k : Nat) : callR (k + 1) i__law_surface = runF 9 2 c__law_surface ⟨callR k⟩ := rfl
theorem cnR__law_small_row (k : Nat) : callR (k + 1) i__law_small_row = runF 3 2 c__law_small_row ⟨callR k⟩ := rfl
theorem cnR__law_no_surface (k : Nat) : callR (k + 1) i__law_no_surface = runF 2 1 c__law_no_surface ⟨callR k⟩ := rfl
theorem cnR__law_halves (k : Nat) : callR (k + 1) i__law_halves = runF 2 1 c__law_halves ⟨callR k⟩ := rfl
theorem cnR__law_namings (k : Nat) : callR (k + 1) i__law_namings = runF 5 1 c__law_namings ⟨callR k⟩ := rfl
theorem cnR__law_right (k : Nat) : callR (k + 1) i__law_right = runF 11 1 c__law_right ⟨callR k⟩ := rfl
def fnN0 : List Str := ["is_number", "is_naming", "then_by", "back_by", "reached", "is_surface_of", "need_surface", "renamed_by", "walk_by", "renamings_by", "turned_by", "half_by", "half_turns", "_law_mixed", "_law_take", "_law_pick", "_law_shuffled", "_law_kinds", "_law_says", "_law_then", "_law_back", "_law_power", "_law_hangs", "_law_renamed", "_law_walk", "_law_renamings", "_law_sheared", "_law_turned", "_law_moved", "_law_naming"]
def fnN1 : List Str := ["_law_surface", "_law_small_row", "_law_no_surface", "_law_halves", "_law_namings", "_law_right"]
def fnN : List Str := fnN0 ++ fnN1
def SS (K : PySem.W.Frag) : Sta := ⟨K, fun n => (fnN[n]?).map (He.ga K), clsAt clL K, [((He.cT K ("_law_right", none)).2, lamQ)]⟩
structure Fd (K : PySem.W.Frag) (mg : Str → Option Value) : Prop where
  d_is_number : ∃ fd, FunD K "is_number" "is_number" (defArgs (top 5)) (defBody (top 5)) (defScope (top 5)) [] [] (He.ga K "is_number") fd
  g_is_number : mg "is_number" = some (.ref (He.ga K "is_number"))
  d_is_naming : ∃ fd, FunD K "is_naming" "is_naming" (defArgs (top 6)) (defBody (top 6)) (defScope (top 6)) [] [] (He.ga K "is_naming") fd
  g_is_naming : mg "is_naming" = some (.ref (He.ga K "is_naming"))
  d_then_by : ∃ fd, FunD K "then_by" "then_by" (defArgs (top 7)) (defBody (top 7)) (defScope (top 7)) [] [] (He.ga K "then_by") fd
  g_then_by : mg "then_by" = some (.ref (He.ga K "then_by"))
  d_back_by : ∃ fd, FunD K "back_by" "back_by" (defArgs (top 8)) (defBody (top 8)) (defScope (top 8)) [] [] (He.ga K "back_by") fd
  g_back_by : mg "back_by" = some (.ref (He.ga K "back_by"))
  d_reached : ∃ fd, FunD K "reached" "reached" (defArgs (top 9)) (defBody (top 9)) (defScope (top 9)) [] [] (He.ga K "reached") fd
  g_reached : mg "reached" = some (.ref (He.ga K "reached"))
  d_is_surface_of : ∃ fd, FunD K "is_surface_of" "is_surface_of" (defArgs (top 10)) (defBody (top 10)) (defScope (top 10)) [] [] (He.ga K "is_surface_of") fd
  g_is_surface_of : mg "is_surface_of" = some (.ref (He.ga K "is_surface_of"))
  d_need_surface : ∃ fd, FunD K "need_surface" "need_surface" (defArgs (top 11)) (defBody (top 11)) (defScope (top 11)) [] [] (He.ga K "need_surface") fd
  g_need_surface : mg "need_surface" = some (.ref (He.ga K "need_surface"))
  d_renamed_by : ∃ fd, FunD K "renamed_by" "renamed_by" (defArgs (top 12)) (defBody (top 12)) (defScope (top 12)) [] [] (He.ga K "renamed_by") fd
  g_renamed_by : mg "renamed_by" = some (.ref (He.ga K "renamed_by"))
  d_walk_by : ∃ fd, FunD K "walk_by" "walk_by" (defArgs (top 13)) (defBody (top 13)) (defScope (top 13)) [] [] (He.ga K "walk_by") fd
  g_walk_by : mg "walk_by" = some (.ref (He.ga K "walk_by"))
  d_renamings_by : ∃ fd, FunD K "renamings_by" "renamings_by" (defArgs (top 15)) (defBody (top 15)) (defScope (top 15)) [] [] (He.ga K "renamings_by") fd
  g_renamings_by : mg "renamings_by" = some (.ref (He.ga K "renamings_by"))
  d_turned_by : ∃ fd, FunD K "turned_by" "turned_by" (defArgs (top 17)) (defBody (top 17)) (defScope (top 17)) [] [] (He.ga K "turned_by") fd
  g_turned_by : mg "turned_by" = some (.ref (He.ga K "turned_by"))
  d_half_by : ∃ fd, FunD K "half_by" "half_by" (defArgs (top 19)) (defBody (top 19)) (defScope (top 19)) [] [] (He.ga K "half_by") fd
  g_half_by : mg "half_by" = some (.ref (He.ga K "half_by"))
  d_half_turns : ∃ fd, FunD K "half_turns" "half_turns" (defArgs (top 20)) (defBody (top 20)) (defScope (top 20)) [] [] (He.ga K "half_turns") fd
  g_half_turns : mg "half_turns" = some (.ref (He.ga K "half_turns"))
  d__law_mixed : ∃ fd, FunD K "_law_mixed" "_law_mixed" (defArgs (top 23)) (defBody (top 23)) (defScope (top 23)) [] [] (He.ga K "_law_mixed") fd
  g__law_mixed : mg "_law_mixed" = some (.ref (He.ga K "_law_mixed"))
  d__law_take : ∃ fd, FunD K "_law_take" "_law_take" (defArgs (top 24)) (defBody (top 24)) (defScope (top 24)) [] [] (He.ga K "_law_take") fd
  g__law_take : mg "_law_take" = some (.ref (He.ga K "_law_take"))
  d__law_pick : ∃ fd, FunD K "_law_pick" "_law_pick" (defArgs (top 25)) (defBody (top 25)) (defScope (top 25)) [] [] (He.ga K "_law_pick") fd
  g__law_pick : mg "_law_pick" = some (.ref (He.ga K "_law_pick"))
  d__law_shuffled : ∃ fd, FunD K "_law_shuffled" "_law_shuffled" (defArgs (top 26)) (defBody (top 26)) (defScope (top 26)) [] [] (He.ga K "_law_shuffled") fd
  g__law_shuffled : mg "_law_shuffled" = some (.ref (He.ga K "_law_shuffled"))
  d__law_kinds : ∃ fd, FunD K "_law_kinds" "_law_kinds" (defArgs (top 28)) (defBody (top 28)) (defScope (top 28)) [] [] (He.ga K "_law_kinds") fd
  g__law_kinds : mg "_law_kinds" = some (.ref (He.ga K "_law_kinds"))
  d__law_says : ∃ fd, FunD K "_law_says" "_law_says" (defArgs (top 29)) (defBody (top 29)) (defScope (top 29)) [] [] (He.ga K "_law_says") fd
  g__law_says : mg "_law_says" = some (.ref (He.ga K "_law_says"))
  d__law_then : ∃ fd, FunD K "_law_then" "_law_then" (defArgs (top 30)) (defBody (top 30)) (defScope (top 30)) [] [] (He.ga K "_law_then") fd
  g__law_then : mg "_law_then" = some (.ref (He.ga K "_law_then"))
  d__law_back : ∃ fd, FunD K "_law_back" "_law_back" (defArgs (top 31)) (defBody (top 31)) (defScope (top 31)) [] [] (He.ga K "_law_back") fd
  g__law_back : mg "_law_back" = some (.ref (He.ga K "_law_back"))
  d__law_power : ∃ fd, FunD K "_law_power" "_law_power" (defArgs (top 32)) (defBody (top 32)) (defScope (top 32)) [] [] (He.ga K "_law_power") fd
  g__law_power : mg "_law_power" = some (.ref (He.ga K "_law_power"))
  d__law_hangs : ∃ fd, FunD K "_law_hangs" "_law_hangs" (defArgs (top 33)) (defBody (top 33)) (defScope (top 33)) [] [] (He.ga K "_law_hangs") fd
  g__law_hangs : mg "_law_hangs" = some (.ref (He.ga K "_law_hangs"))
  d__law_renamed : ∃ fd, FunD K "_law_renamed" "_law_renamed" (defArgs (top 34)) (defBody (top 34)) (defScope (top 34)) [] [] (He.ga K "_law_renamed") fd
  g__law_renamed : mg "_law_renamed" = some (.ref (He.ga K "_law_renamed"))
  d__law_walk : ∃ fd, FunD K "_law_walk" "_law_walk" (defArgs (top 35)) (defBody (top 35)) (defScope (top 35)) [] [] (He.ga K "_law_walk") fd
  g__law_walk : mg "_law_walk" = some (.ref (He.ga K "_law_walk"))
  d__law_renamings : ∃ fd, FunD K "_law_renamings" "_law_renamings" (defArgs (top 36)) (defBody (top 36)) (defScope (top 36)) [] [] (He.ga K "_law_renamings") fd
  g__law_renamings : mg "_law_renamings" = some (.ref (He.ga K "_law_renamings"))
  d__law_sheared : ∃ fd, FunD K "_law_sheared" "_law_sheared" (defArgs (top 37)) (defBody (top 37)) (defScope (top 37)) [] [] (He.ga K "_law_sheared") fd
  g__law_sheared : mg "_law_sheared" = some (.ref (He.ga K "_law_sheared"))
  d__law_turned : ∃ fd, FunD K "_law_turned" "_law_turned" (defArgs (top 38)) (defBody (top 38)) (defScope (top 38)) [] [] (He.ga K "_law_turned") fd
  g__law_turned : mg "_law_turned" = some (.ref (He.ga K "_law_turned"))
  d__law_moved : ∃ fd, FunD K "_law_moved" "_law_moved" (defArgs (top 39)) (defBody (top 39)) (defScope (top 39)) [] [] (He.ga K "_law_moved") fd
  g__law_moved : mg "_law_moved" = some (.ref (He.ga K "_law_moved"))
  d__law_naming : ∃ fd, FunD K "_law_naming" "_law_naming" (defArgs (top 40)) (defBody (top 40)) (defScope (top 40)) [] [] (He.ga K "_law_naming") fd
  g__law_naming : mg "_law_naming" = some (.ref (He.ga K "_law_naming"))
  d__law_surface : ∃ fd, FunD K "_law_surface" "_law_surface" (defArgs (top 41)) (defBody (top 41)) (defScope (top 41)) [] [] (He.ga K "_law_surface") fd
  g__law_surface : mg "_law_surface" = some (.ref (He.ga K "_law_surface"))
  d__law_small_row : ∃ fd, FunD K "_law_small_row" "_law_small_row" (defArgs (top 42)) (defBody (top 42)) (defScope (top 42)) [] [] (He.ga K "_law_small_row") fd
  g__law_small_row : mg "_law_small_row" = some (.ref (He.ga K "_law_small_row"))
  d__law_no_surface : ∃ fd, FunD K "_law_no_surface" "_law_no_surface" (defArgs (top 43)) (defBody (top 43)) (defScope (top 43)) [] [] (He.ga K "_law_no_surface") fd
  g__law_no_surface : mg "_law_no_surface" = some (.ref (He.ga K "_law_no_surface"))
  d__law_halves : ∃ fd, FunD K "_law_halves" "_law_halves" (defArgs (top 44)) (defBody (top 44)) (defScope (top 44)) [] [] (He.ga K "_law_halves") fd
  g__law_halves : mg "_law_halves" = some (.ref (He.ga K "_law_halves"))
  d__law_namings : ∃ fd, FunD K "_law_namings" "_law_namings" (defArgs (top 45)) (defBody (top 45)) (defScope (top 45)) [] [] (He.ga K "_law_namings") fd
  g__law_namings : mg "_law_namings" = some (.ref (He.ga K "_law_namings"))
  d__law_right : ∃ fd, FunD K "_law_right" "_law_right" (defArgs (top 46)) (defBody (top 46)) (defScope (top 46)) [] [] (He.ga K "_law_right") fd
  g__law_right : mg "_law_right" = some (.ref (He.ga K "_law_right"))
  d__law_begun : ∃ fd, FunD K "_law_begun" "_law_begun" (defArgs (top 22)) (defBody (top 22)) (defScope (top 22)) [] [] (He.ga K "_law_begun") fd
  g__law_begun : mg "_law_begun" = some (.ref (He.ga K "_law_begun"))
  d_law : ∃ fd, FunD K "law" "law" (defArgs (top 47)) (defBody (top 47)) (defScope (top 47)) [] [] (He.ga K "law") fd
  g_law : mg "law" = some (.ref (He.ga K "law"))
  b_abs : mg "abs" = none
  b_all : mg "all" = none
  b_bool : mg "bool" = none
  b_dict : mg "dict" = none
  b_enumerate : mg "enumerate" = none
  b_int : mg "int" = none
  b_isinstance : mg "isinstance" = none
  b_len : mg "len" = none
  b_list : mg "list" = none
  b_min : mg "min" = none
  b_range : mg "range" = none
  b_sorted : mg "sorted" = none
  b_sum : mg "sum" = none
  b_tuple : mg "tuple" = none
  k_MOST_SQUARES : ∃ t, mg "MOST_SQUARES" = some (.int 6 t)
  cl : clsOk clL K = true
  g_BadSurface : mg "BadSurface" = some (.ref (He.ga K "BadSurface"))
  g_SquareError : mg "SquareError" = some (.ref (He.ga K "SquareError"))
  g__law_caught : mg "_law_caught" = some (.ref (He.ga K "_law_caught"))
  caught : ∃ fd, FunD K "_law_caught" "_law_caught" (defArgs (top 27)) (defBody (top 27)) (defScope (top 27)) [] [] (He.ga K "_law_caught") fd
def N__law_begun : List Str := ["script", "large", "cell"]
section
variable {P : Program} {w : World} {K : PySem.W.Frag} {mg : Str → Option Value} {base : Heap}
theorem sc_is_number : FnScope N_is_number ["thing"] (defScope (top 5)) := ⟨rfl, rfl, rfl, by decide +kernel, rfl, by decide +kernel, by decide +kernel⟩
theorem sc_is_naming : FnScope N_is_naming ["many", "thing"] (defScope (top 6)) := ⟨rfl, rfl, rfl, by decide +kernel, rfl, by decide +kernel, by decide +kernel⟩
theorem sc_then_by : FnScope N_then_by ["one", "other"] (defScope (top 7)) := ⟨rfl, rfl, rfl, by decide +kernel, rfl, by decide +kernel, by decide +kernel⟩
theorem sc_back_by : FnScope N_back_by ["naming"] (defScope (top 8)) := ⟨rfl, rfl, rfl, by decide +kernel, rfl, by decide +kernel, by decide +kernel⟩
theorem sc_reached : FnScope N_reached ["right", "up"] (defScope (top 9)) := ⟨rfl, rfl, rfl, by decide +kernel, rfl, by decide +kernel, by decide +kernel⟩
theorem sc_is_surface_of : FnScope N_is_surface_of ["thing"] (defScope (top 10)) := ⟨rfl, rfl, rfl, by decide +kernel, rfl, by decide +kernel, by decide +kernel⟩
theorem sc_need_surface : FnScope N_need_surface ["surface"] (defScope (top 11)) := ⟨rfl, rfl, rfl, by decide +kernel, rfl, by decide +kernel, by decide +kernel⟩
theorem sc_renamed_by : FnScope N_renamed_by ["surface", "names"] (defScope (top 12)) := ⟨rfl, rfl, rfl, by decide +kernel, rfl, by decide +kernel, by decide +kernel⟩
theorem sc_walk_by : FnScope N_walk_by ["surface", "square"] (defScope (top 13)) := ⟨rfl, rfl, rfl, by decide +kernel, rfl, by decide +kernel, by decide +kernel⟩
theorem sc_renamings_by : FnScope N_renamings_by ["one", "other"] (defScope (top 15)) := ⟨rfl, rfl, rfl, by decide +kernel, rfl, by decide +kernel, by decide +kernel⟩
theorem sc_turned_by : FnScope N_turned_by ["surface", "many"] (defScope (top 17)) := ⟨rfl, rfl, rfl, by decide +kernel, rfl, by decide +kernel, by decide +kernel⟩
theorem sc_half_by : FnScope N_half_by ["surface"] (defScope (top 19)) := ⟨rfl, rfl, rfl, by decide +kernel, rfl, by decide +kernel, by decide +kernel⟩
theorem sc_half_turns : FnScope N_half_turns ["surface"] (defScope (top 20)) := ⟨rfl, rfl, rfl, by decide +kernel, rfl, by decide +kernel, by decide +kernel⟩
theorem sc__law_mixed : FnScope N__law_mixed ["draw"] (defScope (top 23)) := ⟨rfl, rfl, rfl, by decide +kernel, rfl, by decide +kernel, by decide +kernel⟩
theorem sc__law_take : FnScope N__law_take ["draw", "amount"] (defScope (top 24)) := ⟨rfl, rfl, rfl, by decide +kernel, rfl, by decide +kernel, by decide +kernel⟩
theorem sc__law_pick : FnScope N__law_pick ["draw", "some"] (defScope (top 25)) := ⟨rfl, rfl, rfl, by decide +kernel, rfl, by decide +kernel, by decide +kernel⟩
theorem sc__law_shuffled : FnScope N__law_shuffled ["draw", "some"] (defScope (top 26)) := ⟨rfl, rfl, rfl, by decide +kernel, rfl, by decide +kernel, by decide +kernel⟩
theorem sc__law_kinds : FnScope N__law_kinds ["thing"] (defScope (top 28)) := ⟨rfl, rfl, rfl, by decide +kernel, rfl, by decide +kernel, by decide +kernel⟩
theorem sc__law_says : FnScope N__law_says ["told", "due"] (defScope (top 29)) := ⟨rfl, rfl, rfl, by decide +kernel, rfl, by decide +kernel, by decide +kernel⟩
theorem sc__law_then : FnScope N__law_then ["one", "other"] (defScope (top 30)) := ⟨rfl, rfl, rfl, by decide +kernel, rfl, by decide +kernel, by decide +kernel⟩
theorem sc__law_back : FnScope N__law_back ["one"] (defScope (top 31)) := ⟨rfl, rfl, rfl, by decide +kernel, rfl, by decide +kernel, by decide +kernel⟩
theorem sc__law_power : FnScope N__law_power ["naming", "many"] (defScope (top 32)) := ⟨rfl, rfl, rfl, by decide +kernel, rfl, by decide +kernel, by decide +kernel⟩
theorem sc__law_hangs : FnScope N__law_hangs ["right", "up"] (defScope (top 33)) := ⟨rfl, rfl, rfl, by decide +kernel, rfl, by decide +kernel, by decide +kernel⟩
theorem sc__law_renamed : FnScope N__law_renamed ["surface", "names"] (defScope (top 34)) := ⟨rfl, rfl, rfl, by decide +kernel, rfl, by decide +kernel, by decide +kernel⟩
theorem sc__law_walk : FnScope N__law_walk ["surface", "square"] (defScope (top 35)) := ⟨rfl, rfl, rfl, by decide +kernel, rfl, by decide +kernel, by decide +kernel⟩
theorem sc__law_renamings : FnScope N__law_renamings ["one", "other"] (defScope (top 36)) := ⟨rfl, rfl, rfl, by decide +kernel, rfl, by decide +kernel, by decide +kernel⟩
theorem sc__law_sheared : FnScope N__law_sheared ["surface", "many"] (defScope (top 37)) := ⟨rfl, rfl, rfl, by decide +kernel, rfl, by decide +kernel, by decide +kernel⟩
theorem sc__law_turned : FnScope N__law_turned ["surface", "many"] (defScope (top 38)) := ⟨rfl, rfl, rfl, by decide +kernel, rfl, by decide +kernel, by decide +kernel⟩
theorem sc__law_moved : FnScope N__law_moved ["surface", "row"] (defScope (top 39)) := ⟨rfl, rfl, rfl, by decide +kernel, rfl, by decide +kernel, by decide +kernel⟩
theorem sc__law_naming : FnScope N__law_naming ["draw", "many"] (defScope (top 40)) := ⟨rfl, rfl, rfl, by decide +kernel, rfl, by decide +kernel, by decide +kernel⟩
theorem sc__law_surface : FnScope N__law_surface ["draw", "most"] (defScope (top 41)) := ⟨rfl, rfl, rfl, by decide +kernel, rfl, by decide +kernel, by decide +kernel⟩
theorem sc__law_small_row : FnScope N__law_small_row ["draw", "most"] (defScope (top 42)) := ⟨rfl, rfl, rfl, by decide +kernel, rfl, by decide +kernel, by decide +kernel⟩
theorem sc__law_no_surface : FnScope N__law_no_surface ["draw"] (defScope (top 43)) := ⟨rfl, rfl, rfl, by decide +kernel, rfl, by decide +kernel, by decide +kernel⟩
theorem sc__law_halves : FnScope N__law_halves ["surface"] (defScope (top 44)) := ⟨rfl, rfl, rfl, by decide +kernel, rfl, by decide +kernel, by decide +kernel⟩
theorem sc__law_namings : FnScope N__law_namings ["many"] (defScope (top 45)) := ⟨rfl, rfl, rfl, by decide +kernel, rfl, by decide +kernel, by decide +kernel⟩
theorem sc__law_right : FnScope N__law_right ["draw"] (defScope (top 46)) := ⟨rfl, rfl, rfl, by decide +kernel, rfl, by decide +kernel, by decide +kernel⟩
theorem sc__law_begun : FnScope N__law_begun ["script"] (defScope (top 22)) := ⟨rfl, rfl, rfl, by decide +kernel, rfl, by decide +kernel, by decide +kernel⟩
theorem sc_law : FnScope N_law ["script"] (defScope (top 47)) := ⟨rfl, rfl, rfl, by decide +kernel, rfl, by decide +kernel, by decide +kernel⟩
theorem all_ok (D : Fd K mg) (TB : LamX.TabB base mg (He.cT K ("_law_right", none)).1 (He.cT K ("_law_right", none)).2) : ∀ k, Wd P w K mg base (SS K) (3 * k) ⟨callR k⟩
  | 0 => by
    obtain ⟨fd_is_number, e_is_number⟩ := D.d_is_number
    obtain ⟨fd_is_naming, e_is_naming⟩ := D.d_is_naming
    obtain ⟨fd_then_by, e_then_by⟩ := D.d_then_by
    obtain ⟨fd_back_by, e_back_by⟩ := D.d_back_by
    obtain ⟨fd_reached, e_reached⟩ := D.d_reached
    obtain ⟨fd_is_surface_of, e_is_surface_of⟩ := D.d_is_surface_of
    obtain ⟨fd_need_surface, e_need_surface⟩ := D.d_need_surface
    obtain ⟨fd_renamed_by, e_renamed_by⟩ := D.d_renamed_by
    obtain ⟨fd_walk_by, e_walk_by⟩ := D.d_walk_by
    obtain ⟨fd_renamings_by, e_renamings_by⟩ := D.d_renamings_by
    obtain ⟨fd_turned_by, e_turned_by⟩ := D.d_turned_by
    obtain ⟨fd_half_by, e_half_by⟩ := D.d_half_by
    obtain ⟨fd_half_turns, e_half_turns⟩ := D.d_half_turns
    obtain ⟨fd__law_mixed, e__law_mixed⟩ := D.d__law_mixed
    obtain ⟨fd__law_take, e__law_take⟩ := D.d__law_take
    obtain ⟨fd__law_pick, e__law_pick⟩ := D.d__law_pick
    obtain ⟨fd__law_shuffled, e__law_shuffled⟩ := D.d__law_shuffled
    obtain ⟨fd__law_kinds, e__law_kinds⟩ := D.d__law_kinds
    obtain ⟨fd__law_says, e__law_says⟩ := D.d__law_says
    obtain ⟨fd__law_then, e__law_then⟩ := D.d__law_then
    obtain ⟨fd__law_back, e__law_back⟩ := D.d__law_back
    obtain ⟨fd__law_power, e__law_power⟩ := D.d__law_power
    obtain ⟨fd__law_hangs, e__law_hangs⟩ := D.d__law_hangs
    obtain ⟨fd__law_renamed, e__law_renamed⟩ := D.d__law_renamed
    obtain ⟨fd__law_walk, e__law_walk⟩ := D.d__law_walk
    obtain ⟨fd__law_renamings, e__law_renamings⟩ := D.d__law_renamings
    obtain ⟨fd__law_sheared, e__law_sheared⟩ := D.d__law_sheared
    obtain ⟨fd__law_turned, e__law_turned⟩ := D.d__law_turned
    obtain ⟨fd__law_moved, e__law_moved⟩ := D.d__law_moved
    obtain ⟨fd__law_naming, e__law_naming⟩ := D.d__law_naming
    obtain ⟨fd__law_surface, e__law_surface⟩ := D.d__law_surface
    obtain ⟨fd__law_small_row, e__law_small_row⟩ := D.d__law_small_row
    obtain ⟨fd__law_no_surface, e__law_no_surface⟩ := D.d__law_no_surface
    obtain ⟨fd__law_halves, e__law_halves⟩ := D.d__law_halves
    obtain ⟨fd__law_namings, e__law_namings⟩ := D.d__law_namings
    obtain ⟨fd__law_right, e__law_right⟩ := D.d__law_right
    exact {
      f_is_number := ⟨_, fd_is_number, rfl, D.g_is_number, e_is_number.kp, e_is_number.bindsN (fun _ _ _ _ _ _ us hl => match us, hl with | [_], _ => rfl), fn_zero⟩
      f_is_naming := ⟨_, fd_is_naming, rfl, D.g_is_naming, e_is_naming.kp, e_is_naming.bindsN (fun _ _ _ _ _ _ us hl => match us, hl with | [_, _], _ => rfl), fn_zero⟩
      f_then_by := ⟨_, fd_then_by, rfl, D.g_then_by, e_then_by.kp, e_then_by.bindsN (fun _ _ _ _ _ _ us hl => match us, hl with | [_, _], _ => rfl), fn_zero⟩
      f_back_by := ⟨_, fd_back_by, rfl, D.g_back_by, e_back_by.kp, e_back_by.bindsN (fun _ _ _ _ _ _ us hl => match us, hl with | [_], _ => rfl), fn_zero⟩
      f_reached := ⟨_, fd_reached, rfl, D.g_reached, e_reached.kp, e_reached.bindsN (fun _ _ _ _ _ _ us hl => match us, hl with | [_, _], _ => rfl), fn_zero⟩
      f_is_surface_of := ⟨_, fd_is_surface_of, rfl, D.g_is_surface_of, e_is_surface_of.kp, e_is_surface_of.bindsN (fun _ _ _ _ _ _ us hl => match us, hl with | [_], _ => rfl), fn_zero⟩
      f_need_surface := ⟨_, fd_need_surface, rfl, D.g_need_surface, e_need_surface.kp, e_need_surface.bindsN (fun _ _ _ _ _ _ us hl => match us, hl with | [_], _ => rfl), fn_zero⟩
      f_renamed_by := ⟨_, fd_renamed_by, rfl, D.g_renamed_by, e_renamed_by.kp, e_renamed_by.bindsN (fun _ _ _ _ _ _ us hl => match us, hl with | [_, _], _ => rfl), fn_zero⟩
      f_walk_by := ⟨_, fd_walk_by, rfl, D.g_walk_by, e_walk_by.kp, e_walk_by.bindsN (fun _ _ _ _ _ _ us hl => match us, hl with | [_, _], _ => rfl), fn_zero⟩
      f_renamings_by := ⟨_, fd_renamings_by, rfl, D.g_renamings_by, e_renamings_by.kp, e_renamings_by.bindsN (fun _ _ _ _ _ _ us hl => match us, hl with | [_, _], _ => rfl), fn_zero⟩
      f_turned_by := ⟨_, fd_turned_by, rfl, D.g_turned_by, e_turned_by.kp, e_turned_by.bindsN (fun _ _ _ _ _ _ us hl => match us, hl with | [_, _], _ => rfl), fn_zero⟩
      f_half_by := ⟨_, fd_half_by, rfl, D.g_half_by, e_half_by.kp, e_half_by.bindsN (fun _ _ _ _ _ _ us hl => match us, hl with | [_], _ => rfl), fn_zero⟩
      f_half_turns := ⟨_, fd_half_turns, rfl, D.g_half_turns, e_half_turns.kp, e_half_turns.bindsN (fun _ _ _ _ _ _ us hl => match us, hl with | [_], _ => rfl), fn_zero⟩
      f__law_mixed := ⟨_, fd__law_mixed, rfl, D.g__law_mixed, e__law_mixed.kp, e__law_mixed.bindsN (fun _ _ _ _ _ _ us hl => match us, hl with | [_], _ => rfl), fn_zero⟩
      f__law_take := ⟨_, fd__law_take, rfl, D.g__law_take, e__law_take.kp, e__law_take.bindsN (fun _ _ _ _ _ _ us hl => match us, hl with | [_, _], _ => rfl), fn_zero⟩
      f__law_pick := ⟨_, fd__law_pick, rfl, D.g__law_pick, e__law_pick.kp, e__law_pick.bindsN (fun _ _ _ _ _ _ us hl => match us, hl with | [_, _], _ => rfl), fn_zero⟩
      f__law_shuffled := ⟨_, fd__law_shuffled, rfl, D.g__law_shuffled, e__law_shuffled.kp, e__law_shuffled.bindsN (fun _ _ _ _ _ _ us hl => match us, hl with | [_, _], _ => rfl), fn_zero⟩
      f__law_kinds := ⟨_, fd__law_kinds, rfl, D.g__law_kinds, e__law_kinds.kp, e__law_kinds.bindsN (fun _ _ _ _ _ _ us hl => match us, hl with | [_], _ => rfl), fn_zero⟩
      f__law_says := ⟨_, fd__law_says, rfl, D.g__law_says, e__law_says.kp, e__law_says.bindsN (fun _ _ _ _ _ _ us hl => match us, hl with | [_, _], _ => rfl), fn_zero⟩
      f__law_then := ⟨_, fd__law_then, rfl, D.g__law_then, e__law_then.kp, e__law_then.bindsN (fun _ _ _ _ _ _ us hl => match us, hl with | [_, _], _ => rfl), fn_zero⟩
      f__law_back := ⟨_, fd__law_back, rfl, D.g__law_back, e__law_back.kp, e__law_back.bindsN (fun _ _ _ _ _ _ us hl => match us, hl with | [_], _ => rfl), fn_zero⟩
      f__law_power := ⟨_, fd__law_power, rfl, D.g__law_power, e__law_power.kp, e__law_power.bindsN (fun _ _ _ _ _ _ us hl => match us, hl with | [_, _], _ => rfl), fn_zero⟩
      f__law_hangs := ⟨_, fd__law_hangs, rfl, D.g__law_hangs, e__law_hangs.kp, e__law_hangs.bindsN (fun _ _ _ _ _ _ us hl => match us, hl with | [_, _], _ => rfl), fn_zero⟩
      f__law_renamed := ⟨_, fd__law_renamed, rfl, D.g__law_renamed, e__law_renamed.kp, e__law_renamed.bindsN (fun _ _ _ _ _ _ us hl => match us, hl with | [_, _], _ => rfl), fn_zero⟩
      f__law_walk := ⟨_, fd__law_walk, rfl, D.g__law_walk, e__law_walk.kp, e__law_walk.bindsN (fun _ _ _ _ _ _ us hl => match us, hl with | [_, _], _ => rfl), fn_zero⟩
      f__law_renamings := ⟨_, fd__law_renamings, rfl, D.g__law_renamings, e__law_renamings.kp, e__law_renamings.bindsN (fun _ _ _ _ _ _ us hl => match us, hl with | [_, _], _ => rfl), fn_zero⟩
      f__law_sheared := ⟨_, fd__law_sheared, rfl, D.g__law_sheared, e__law_sheared.kp, e__law_sheared.bindsN (fun _ _ _ _ _ _ us hl => match us, hl with | [_, _], _ => rfl), fn_zero⟩
      f__law_turned := ⟨_, fd__law_turned, rfl, D.g__law_turned, e__law_turned.kp, e__law_turned.bindsN (fun _ _ _ _ _ _ us hl => match us, hl with | [_, _], _ => rfl), fn_zero⟩
      f__law_moved := ⟨_, fd__law_moved, rfl, D.g__law_moved, e__law_moved.kp, e__law_moved.bindsN (fun _ _ _ _ _ _ us hl => match us, hl with | [_, _], _ => rfl), fn_zero⟩
      f__law_naming := ⟨_, fd__law_naming, rfl, D.g__law_naming, e__law_naming.kp, e__law_naming.bindsN (fun _ _ _ _ _ _ us hl => match us, hl with | [_, _], _ => rfl), fn_zero⟩
      f__law_surface := ⟨_, fd__law_surface, rfl, D.g__law_surface, e__law_surface.kp, e__law_surface.bindsN (fun _ _ _ _ _ _ us hl => match us, hl with | [_, _], _ => rfl), fn_zero⟩
      f__law_small_row := ⟨_, fd__law_small_row, rfl, D.g__law_small_row, e__law_small_row.kp, e__law_small_row.bindsN (fun _ _ _ _ _ _ us hl => match us, hl with | [_, _], _ => rfl), fn_zero⟩
      f__law_no_surface := ⟨_, fd__law_no_surface, rfl, D.g__law_no_surface, e__law_no_surface.kp, e__law_no_surface.bindsN (fun _ _ _ _ _ _ us hl => match us, hl with | [_], _ => rfl), fn_zero⟩
      f__law_halves := ⟨_, fd__law_halves, rfl, D.g__law_halves, e__law_halves.kp, e__law_halves.bindsN (fun _ _ _ _ _ _ us hl => match us, hl with | [_], _ => rfl), fn_zero⟩
      f__law_namings := ⟨_, fd__law_namings, rfl, D.g__law_namings, e__law_namings.kp, e__law_namings.bindsN (fun _ _ _ _ _ _ us hl => match us, hl with | [_], _ => rfl), fn_zero⟩
      f__law_right := ⟨_, fd__law_right, rfl, D.g__law_right, e__law_right.kp, e__law_right.bindsN (fun _ _ _ _ _ _ us hl => match us, hl with | [_], _ => rfl), fn_zero⟩
      b_abs := D.b_abs
      b_all := D.b_all
      b_bool := D.b_bool
      b_dict := D.b_dict
      b_enumerate := D.b_enumerate
      b_int := D.b_int
      b_isinstance := D.b_isinstance
      b_len := D.b_len
      b_list := D.b_list
      b_min := D.b_min
      b_range := D.b_range
      b_sorted := D.b_sorted
      b_sum := D.b_sum
      b_tuple := D.b_tuple
      k_MOST_SQUARES := D.k_MOST_SQUARES
      cl := D.cl
      hcls := rfl
      g__law_caught := D.g__law_caught
      caught := D.caught
      g_BadSurface := D.g_BadSurface
      g_SquareError := D.g_SquareError
      TB := TB
      hmT := List.mem_singleton.mpr rfl
      hmU := fun z hz _ => by rw [List.mem_singleton.mp hz]
      kw_half_turns_surface := ⟨_, fd_half_turns, rfl, D.g_half_turns, e_half_turns.kp, kw_binds e_half_turns (fun _ _ _ _ _ _ ws hl => match ws, hl with | [_], _ => rfl), fn_zero⟩
    }
  | k + 1 => by
    have W := all_ok D TB k
    obtain ⟨fd_is_number, e_is_number⟩ := D.d_is_number
    obtain ⟨fd_is_naming, e_is_naming⟩ := D.d_is_naming
    obtain ⟨fd_then_by, e_then_by⟩ := D.d_then_by
    obtain ⟨fd_back_by, e_back_by⟩ := D.d_back_by
    obtain ⟨fd_reached, e_reached⟩ := D.d_reached
    obtain ⟨fd_is_surface_of, e_is_surface_of⟩ := D.d_is_surface_of
    obtain ⟨fd_need_surface, e_need_surface⟩ := D.d_need_surface
    obtain ⟨fd_renamed_by, e_renamed_by⟩ := D.d_renamed_by
    obtain ⟨fd_walk_by, e_walk_by⟩ := D.d_walk_by
    obtain ⟨fd_renamings_by, e_renamings_by⟩ := D.d_renamings_by
    obtain ⟨fd_turned_by, e_turned_by⟩ := D.d_turned_by
    obtain ⟨fd_half_by, e_half_by⟩ := D.d_half_by
    obtain ⟨fd_half_turns, e_half_turns⟩ := D.d_half_turns
    obtain ⟨fd__law_mixed, e__law_mixed⟩ := D.d__law_mixed
    obtain ⟨fd__law_take, e__law_take⟩ := D.d__law_take
    obtain ⟨fd__law_pick, e__law_pick⟩ := D.d__law_pick
    obtain ⟨fd__law_shuffled, e__law_shuffled⟩ := D.d__law_shuffled
    obtain ⟨fd__law_kinds, e__law_kinds⟩ := D.d__law_kinds
    obtain ⟨fd__law_says, e__law_says⟩ := D.d__law_says
    obtain ⟨fd__law_then, e__law_then⟩ := D.d__law_then
    obtain ⟨fd__law_back, e__law_back⟩ := D.d__law_back
    obtain ⟨fd__law_power, e__law_power⟩ := D.d__law_power
    obtain ⟨fd__law_hangs, e__law_hangs⟩ := D.d__law_hangs
    obtain ⟨fd__law_renamed, e__law_renamed⟩ := D.d__law_renamed
    obtain ⟨fd__law_walk, e__law_walk⟩ := D.d__law_walk
    obtain ⟨fd__law_renamings, e__law_renamings⟩ := D.d__law_renamings
    obtain ⟨fd__law_sheared, e__law_sheared⟩ := D.d__law_sheared
    obtain ⟨fd__law_turned, e__law_turned⟩ := D.d__law_turned
    obtain ⟨fd__law_moved, e__law_moved⟩ := D.d__law_moved
    obtain ⟨fd__law_naming, e__law_naming⟩ := D.d__law_naming
    obtain ⟨fd__law_surface, e__law_surface⟩ := D.d__law_surface
    obtain ⟨fd__law_small_row, e__law_small_row⟩ := D.d__law_small_row
    obtain ⟨fd__law_no_surface, e__law_no_surface⟩ := D.d__law_no_surface
    obtain ⟨fd__law_halves, e__law_halves⟩ := D.d__law_halves
    obtain ⟨fd__law_namings, e__law_namings⟩ := D.d__law_namings
    obtain ⟨fd__law_right, e__law_right⟩ := D.d__law_right
    exact {
      f_is_number := ⟨_, fd_is_number, rfl, D.g_is_number, e_is_number.kp, e_is_number.bindsN (fun _ _ _ _ _ _ us hl => match us, hl with | [_], _ => rfl), fn_step e_is_number sc_is_number fun _ _ _ _ _ _ hr => p_is_number W rfl hr⟩
      f_is_naming := ⟨_, fd_is_naming, rfl, D.g_is_naming, e_is_naming.kp, e_is_naming.bindsN (fun _ _ _ _ _ _ us hl => match us, hl with | [_, _], _ => rfl), fn_step e_is_naming sc_is_naming fun _ _ _ _ _ _ hr => p_is_naming W rfl hr⟩
      f_then_by := ⟨_, fd_then_by, rfl, D.g_then_by, e_then_by.kp, e_then_by.bindsN (fun _ _ _ _ _ _ us hl => match us, hl with | [_, _], _ => rfl), fn_step e_then_by sc_then_by fun _ _ _ _ _ _ hr => p_then_by W rfl hr⟩
      f_back_by := ⟨_, fd_back_by, rfl, D.g_back_by, e_back_by.kp, e_back_by.bindsN (fun _ _ _ _ _ _ us hl => match us, hl with | [_], _ => rfl), fn_step e_back_by sc_back_by fun _ _ _ _ _ _ hr => p_back_by W rfl hr⟩
      f_reached := ⟨_, fd_reached, rfl, D.g_reached, e_reached.kp, e_reached.bindsN (fun _ _ _ _ _ _ us hl => match us, hl with | [_, _], _ => rfl), fn_step e_reached sc_reached fun _ _ _ _ _ _ hr => p_reached W rfl hr⟩
      f_is_surface_of := ⟨_, fd_is_surface_of, rfl, D.g_is_surface_of, e_is_surface_of.kp, e_is_surface_of.bindsN (fun _ _ _ _ _ _ us hl => match us, hl with | [_], _ => rfl), fn_step e_is_surface_of sc_is_surface_of fun _ _ _ _ _ _ hr => p_is_surface_of W rfl hr⟩
      f_need_surface := ⟨_, fd_need_surface, rfl, D.g_need_surface, e_need_surface.kp, e_need_surface.bindsN (fun _ _ _ _ _ _ us hl => match us, hl with | [_], _ => rfl), fn_step e_need_surface sc_need_surface fun _ _ _ _ _ _ hr => p_need_surface W rfl hr⟩
      f_renamed_by := ⟨_, fd_renamed_by, rfl, D.g_renamed_by, e_renamed_by.kp, e_renamed_by.bindsN (fun _ _ _ _ _ _ us hl => match us, hl with | [_, _], _ => rfl), fn_step e_renamed_by sc_renamed_by fun _ _ _ _ _ _ hr => p_renamed_by W rfl hr⟩
      f_walk_by := ⟨_, fd_walk_by, rfl, D.g_walk_by, e_walk_by.kp, e_walk_by.bindsN (fun _ _ _ _ _ _ us hl => match us, hl with | [_, _], _ => rfl), fn_step e_walk_by sc_walk_by fun _ _ _ _ _ _ hr => p_walk_by W rfl hr⟩
      f_renamings_by := ⟨_, fd_renamings_by, rfl, D.g_renamings_by, e_renamings_by.kp, e_renamings_by.bindsN (fun _ _ _ _ _ _ us hl => match us, hl with | [_, _], _ => rfl), fn_step e_renamings_by sc_renamings_by fun _ _ _ _ _ _ hr => p_renamings_by W rfl hr⟩
      f_turned_by := ⟨_, fd_turned_by, rfl, D.g_turned_by, e_turned_by.kp, e_turned_by.bindsN (fun _ _ _ _ _ _ us hl => match us, hl with | [_, _], _ => rfl), fn_step e_turned_by sc_turned_by fun _ _ _ _ _ _ hr => p_turned_by W rfl hr⟩
      f_half_by := ⟨_, fd_half_by, rfl, D.g_half_by, e_half_by.kp, e_half_by.bindsN (fun _ _ _ _ _ _ us hl => match us, hl with | [_], _ => rfl), fn_step e_half_by sc_half_by fun _ _ _ _ _ _ hr => p_half_by W rfl hr⟩
      f_half_turns := ⟨_, fd_half_turns, rfl, D.g_half_turns, e_half_turns.kp, e_half_turns.bindsN (fun _ _ _ _ _ _ us hl => match us, hl with | [_], _ => rfl), fn_step e_half_turns sc_half_turns fun _ _ _ _ _ _ hr => p_half_turns W rfl hr⟩
      f__law_mixed := ⟨_, fd__law_mixed, rfl, D.g__law_mixed, e__law_mixed.kp, e__law_mixed.bindsN (fun _ _ _ _ _ _ us hl => match us, hl with | [_], _ => rfl), fn_step e__law_mixed sc__law_mixed fun _ _ _ _ _ _ hr => p__law_mixed W rfl hr⟩
      f__law_take := ⟨_, fd__law_take, rfl, D.g__law_take, e__law_take.kp, e__law_take.bindsN (fun _ _ _ _ _ _ us hl => match us, hl with | [_, _], _ => rfl), fn_step e__law_take sc__law_take fun _ _ _ _ _ _ hr => p__law_take W rfl hr⟩
      f__law_pick := ⟨_, fd__law_pick, rfl, D.g__law_pick, e__law_pick.kp, e__law_pick.bindsN (fun _ _ _ _ _ _ us hl => match us, hl with | [_, _], _ => rfl), fn_step e__law_pick sc__law_pick fun _ _ _ _ _ _ hr => p__law_pick W rfl hr⟩
      f__law_shuffled := ⟨_, fd__law_shuffled, rfl, D.g__law_shuffled, e__law_shuffled.kp, e__law_shuffled.bindsN (fun _ _ _ _ _ _ us hl => match us, hl with | [_, _], _ => rfl), fn_step e__law_shuffled sc__law_shuffled fun _ _ _ _ _ _ hr => p__law_shuffled W rfl hr⟩
      f__law_kinds := ⟨_, fd__law_kinds, rfl, D.g__law_kinds, e__law_kinds.kp, e__law_kinds.bindsN (fun _ _ _ _ _ _ us hl => match us, hl with | [_], _ => rfl), fn_step e__law_kinds sc__law_kinds fun _ _ _ _ _ _ hr => p__law_kinds W rfl hr⟩
      f__law_says := ⟨_, fd__law_says, rfl, D.g__law_says, e__law_says.kp, e__law_says.bindsN (fun _ _ _ _ _ _ us hl => match us, hl with | [_, _], _ => rfl), fn_step e__law_says sc__law_says fun _ _ _ _ _ _ hr => p__law_says W rfl hr⟩
      f__law_then := ⟨_, fd__law_then, rfl, D.g__law_then, e__law_then.kp, e__law_then.bindsN (fun _ _ _ _ _ _ us hl => match us, hl with | [_, _], _ => rfl), fn_step e__law_then sc__law_then fun _ _ _ _ _ _ hr => p__law_then W rfl hr⟩
      f__law_back := ⟨_, fd__law_back, rfl, D.g__law_back, e__law_back.kp, e__law_back.bindsN (fun _ _ _ _ _ _ us hl => match us, hl with | [_], _ => rfl), fn_step e__law_back sc__law_back fun _ _ _ _ _ _ hr => p__law_back W rfl hr⟩
      f__law_power := ⟨_, fd__law_power, rfl, D.g__law_power, e__law_power.kp, e__law_power.bindsN (fun _ _ _ _ _ _ us hl => match us, hl with | [_, _], _ => rfl), fn_step e__law_power sc__law_power fun _ _ _ _ _ _ hr => p__law_power W rfl hr⟩
      f__law_hangs := ⟨_, fd__law_hangs, rfl, D.g__law_hangs, e__law_hangs.kp, e__law_hangs.bindsN (fun _ _ _ _ _ _ us hl => match us, hl with | [_, _], _ => rfl), fn_step e__law_hangs sc__law_hangs fun _ _ _ _ _ _ hr => p__law_hangs W rfl hr⟩
      f__law_renamed := ⟨_, fd__law_renamed, rfl, D.g__law_renamed, e__law_renamed.kp, e__law_renamed.bindsN (fun _ _ _ _ _ _ us hl => match us, hl with | [_, _], _ => rfl), fn_step e__law_renamed sc__law_renamed fun _ _ _ _ _ _ hr => p__law_renamed W rfl hr⟩
      f__law_walk := ⟨_, fd__law_walk, rfl, D.g__law_walk, e__law_walk.kp, e__law_walk.bindsN (fun _ _ _ _ _ _ us hl => match us, hl with | [_, _], _ => rfl), fn_step e__law_walk sc__law_walk fun _ _ _ _ _ _ hr => p__law_walk W rfl hr⟩
      f__law_renamings := ⟨_, fd__law_renamings, rfl, D.g__law_renamings, e__law_renamings.kp, e__law_renamings.bindsN (fun _ _ _ _ _ _ us hl => match us, hl with | [_, _], _ => rfl), fn_step e__law_renamings sc__law_renamings fun _ _ _ _ _ _ hr => p__law_renamings W rfl hr⟩
      f__law_sheared := ⟨_, fd__law_sheared, rfl, D.g__law_sheared, e__law_sheared.kp, e__law_sheared.bindsN (fun _ _ _ _ _ _ us hl => match us, hl with | [_, _], _ => rfl), fn_step e__law_sheared sc__law_sheared fun _ _ _ _ _ _ hr => p__law_sheared W rfl hr⟩
      f__law_turned := ⟨_, fd__law_turned, rfl, D.g__law_turned, e__law_turned.kp, e__law_turned.bindsN (fun _ _ _ _ _ _ us hl => match us, hl with | [_, _], _ => rfl), fn_step e__law_turned sc__law_turned fun _ _ _ _ _ _ hr => p__law_turned W rfl hr⟩
      f__law_moved := ⟨_, fd__law_moved, rfl, D.g__law_moved, e__law_moved.kp, e__law_moved.bindsN (fun _ _ _ _ _ _ us hl => match us, hl with | [_, _], _ => rfl), fn_step e__law_moved sc__law_moved fun _ _ _ _ _ _ hr => p__law_moved W rfl hr⟩
      f__law_naming := ⟨_, fd__law_naming, rfl, D.g__law_naming, e__law_naming.kp, e__law_naming.bindsN (fun _ _ _ _ _ _ us hl => match us, hl with | [_, _], _ => rfl), fn_step e__law_naming sc__law_naming fun _ _ _ _ _ _ hr => p__law_naming W rfl hr⟩
      f__law_surface := ⟨_, fd__law_surface, rfl, D.g__law_surface, e__law_surface.kp, e__law_surface.bindsN (fun _ _ _ _ _ _ us hl => match us, hl with | [_, _], _ => rfl), fn_step e__law_surface sc__law_surface fun _ _ _ _ _ _ hr => p__law_surface W rfl hr⟩
      f__law_small_row := ⟨_, fd__law_small_row, rfl, D.g__law_small_row, e__law_small_row.kp, e__law_small_row.bindsN (fun _ _ _ _ _ _ us hl => match us, hl with | [_, _], _ => rfl), fn_step e__law_small_row sc__law_small_row fun _ _ _ _ _ _ hr => p__law_small_row W rfl hr⟩
      f__law_no_surface := ⟨_, fd__law_no_surface, rfl, D.g__law_no_surface, e__law_no_surface.kp, e__law_no_surface.bindsN (fun _ _ _ _ _ _ us hl => match us, hl with | [_], _ => rfl), fn_step e__law_no_surface sc__law_no_surface fun _ _ _ _ _ _ hr => p__law_no_surface W rfl hr⟩
      f__law_halves := ⟨_, fd__law_halves, rfl, D.g__law_halves, e__law_halves.kp, e__law_halves.bindsN (fun _ _ _ _ _ _ us hl => match us, hl with | [_], _ => rfl), fn_step e__law_halves sc__law_halves fun _ _ _ _ _ _ hr => p__law_halves W rfl hr⟩
      f__law_namings := ⟨_, fd__law_namings, rfl, D.g__law_namings, e__law_namings.kp, e__law_namings.bindsN (fun _ _ _ _ _ _ us hl => match us, hl with | [_], _ => rfl), fn_step e__law_namings sc__law_namings fun _ _ _ _ _ _ hr => p__law_namings W rfl hr⟩
      f__law_right := ⟨_, fd__law_right, rfl, D.g__law_right, e__law_right.kp, e__law_right.bindsN (fun _ _ _ _ _ _ us hl => match us, hl with | [_], _ => rfl), fn_stepC (p := ("_law_right", none)) e__law_right rfl sc__law_right fun _ _ _ _ _ _ hc hr => p__law_right W rfl hc hr⟩
      b_abs := D.b_abs
      b_all := D.b_all
      b_bool := D.b_bool
      b_dict := D.b_dict
      b_enumerate := D.b_enumerate
      b_int := D.b_int
      b_isinstance := D.b_isinstance
      b_len := D.b_len
      b_list := D.b_list
      b_min := D.b_min
      b_range := D.b_range
      b_sorted := D.b_sorted
      b_sum := D.b_sum
      b_tuple := D.b_tuple
      k_MOST_SQUARES := D.k_MOST_SQUARES
      cl := D.cl
      hcls := rfl
      g__law_caught := D.g__law_caught
      caught := D.caught
      g_BadSurface := D.g_BadSurface
      g_SquareError := D.g_SquareError
      TB := TB
      hmT := List.mem_singleton.mpr rfl
      hmU := fun z hz _ => by rw [List.mem_singleton.mp hz]
      kw_half_turns_surface := ⟨_, fd_half_turns, rfl, D.g_half_turns, e_half_turns.kp, kw_binds e_half_turns (fun _ _ _ _ _ _ ws hl => match ws, hl with | [_], _ => rfl), fn_step e_half_turns sc_half_turns fun _ _ _ _ _ _ hr => p_half_turns W rfl hr⟩
    }
theorem p_begun (D : Fd K mg) {f : Addr} {cdv : Value} {A : Around} {outer : List Env} {s : Shared} {H : Hp} {E : XK} : PSs (cxI P w K mg base N__law_begun "_law_begun" 22 f cdv A outer s H E) (defBody (top 22)) (tBegun K) := by
  have hN : N__law_begun.Nodup := by decide +kernel
  exact pss_cons (ps_setLc (by rfl) hN (i := 1) (by rfl) (by rfl) (by rfl) (pi_list (pv 0)) (blk_of (own := [("cell", 2)]) (by kernel_rfl)) (fun _ _ _ _ _ => pg_name hN (i := 2) (by rfl) (by first | exact .inl rfl | exact .inr rfl)) (fun _ _ _ _ _ => pts_one (pt_cmpR op_ge (pe_callB call_abs (by rfl) D.b_abs boot_abs (pa_cons (pv 2) pa_nil)) (pe_op op_pow pe_int pe_int) (nobehind _ (by decide) (by decide)))) (fun _ _ _ _ _ => pe_op op_sub (pe_callB call_abs (by rfl) D.b_abs boot_abs (pa_cons (pv 2) pa_nil)) (pe_op op_pow pe_int pe_int))) (pss_one (ps_ret (pe_disp (pps_cons pe_str (pv 1) (pps_cons pe_str pe_int (pps_cons pe_str (pe_lc (by rfl) hN (pi_list (pv 0)) (blk_of (own := [("cell", 2)]) (by kernel_rfl)) (fun _ _ _ _ _ => pg_name hN (i := 2) (by rfl) (by first | exact .inl rfl | exact .inr rfl)) (fun _ _ _ _ _ => pts_nil) (fun _ _ _ _ _ => pe_callB call_abs (by rfl) D.b_abs boot_abs (pa_cons (pv 2) pa_nil))) (pps_cons pe_str pe_int pps_nil)))) (by rfl) (by rfl) (by simp) (by decide))))
theorem begun_ok (D : Fd K mg) : ∃ fd, FunD K "_law_begun" "_law_begun" (defArgs (top 22)) (defBody (top 22)) (defScope (top 22)) [] [] (He.ga K "_law_begun") fd ∧ FnOk P w K mg base (L2.CX P w) 90 (He.ga K "_law_begun") fd ["script"] (spBegun K) := by
  obtain ⟨fd, F⟩ := D.d__law_begun
  exact ⟨fd, F, (F.ok (k := 0) sc__law_begun (fun vs H Q E ⟨a, ns, e, _⟩ => by rw [e]; rfl) fun cdv A outer s H vs Q E hr h => ⟨_, p_begun D, begun_read h⟩).mono (by decide)⟩
theorem p_law (D : Fd K mg) {f : Addr} {cdv : Value} {A : Around} {outer : List Env} {s : Shared} {H : Hp} {E : XK} (TB : LamX.TabB base mg (He.cT K ("_law_right", none)).1 (He.cT K ("_law_right", none)).2) (hr2 : Room (90 + 2) (A.deeper (envOfC "law" (defScope (top 47)) s.heap.objs.size f cdv))) :
    PS (cxI P w K mg base N_law "law" 47 f cdv A outer s H E) ((defBody (top 47)).headD (.Pass ⟨0, 0, 0, 0⟩)) (tAsg (tCall (spBegun K) [] E (tCons (tVar 0) tNil)) (gName 1)) ∧ PSs (cxI P w K mg base N_law "law" 47 f cdv A outer s H E) (defBody (top 47)).tail (rdS (SS K) ⟨callR 30⟩ E c_law) := by
  have W : Wd P w K mg base (SS K) 90 ⟨callR 30⟩ := all_ok D TB 30
  have hr : Room 90 (A.deeper (envOfC "law" (defScope (top 47)) s.heap.objs.size f cdv)) := hr2.mono (by decide)
  have hK : K = (SS K).K := rfl
  have hu := hu_of hr
  have hN : N_law.Nodup := by decide +kernel
  have tk : Takes (cxI P w K mg base N_law "law" 47 f cdv A outer s H E) (fun cls d _ H => E cls d H) := takes_cx
  have hp : PassesOwn (model P w) (cxI P w K mg base N_law "law" 47 f cdv A outer s H E).A (cxI P w K mg base N_law "law" 47 f cdv A outer s H E).env (cxI P w K mg base N_law "law" 47 f cdv A outer s H E).xe := owns_cx
  refine ⟨?_, ?_⟩
  · obtain ⟨fd, F, ok⟩ := begun_ok (P := P) (w := w) (base := base) D
    exact ps_set hN (by rfl) (by first | exact .inl rfl | exact .inr rfl) (pe_call ok hr (by rfl) D.g__law_begun F.kp (F.bindsN (fun _ _ _ _ _ _ us hl => match us, hl with | [_], _ => rfl)) .nil (passes_call tk fun _ _ _ _ z => z) (pa_cons (pv 0) pa_nil) (by rfl) (by rfl) (by rfl))
  · exact s_cons (s_for hp (by rfl) (i_rng1 hK (by rfl) W.b_range (by rfl) (e_bin hK (v_bin _) (ePE (e_int)) (ePE (e_fun2 hK (pe_callB (b_min2 (by rfl)) (by rfl) W.b_min boot_min (pa_cons (ePE (e_fun1 hK (pe_callB b_len (by rfl) W.b_len boot_len (pa_cons (p_peek (pv 0)) (pa_nil))))) (pa_cons (ePE (e_int)) (pa_nil)))))))) (g_name (pg_name hN (i := 2) (by rfl) (by first | exact .inl rfl | exact .inr rfl))) (s_one (s_if (t_not (t_val (e_call hK W.f__law_right hr (by rfl) tk (a_cons (e_var (pv 1)) (a_nil) (by rfl)) (by rfl) (by rfl) (by rfl)) (by intro _; rfl))) (s_one (s_ret (e_bl))) (s_nil))) (by intro _; rfl)) (s_one (s_ret (e_call hK W.f__law_says hr (by rfl) tk (a_cons (fE (f_lst hK (a_cons (e_call hK W.f_half_turns hr (by rfl) tk (a_cons (e_tup hK (a_cons (e_tup hK (a_cons (e_int) (a_cons (e_int) (a_cons (e_int) (a_nil) (by rfl)) (by rfl)) (by rfl))) (a_cons (e_tup hK (a_cons (e_int) (a_cons (e_int) (a_cons (e_int) (a_nil) (by rfl)) (by rfl)) (by rfl))) (a_nil) (by rfl)) (by rfl))) (a_nil) (by rfl)) (by rfl) (by rfl) (by rfl)) (a_cons (e_call hK W.f_half_turns hr (by rfl) tk (a_cons (e_tup hK (a_cons (e_tup hK (a_cons (e_int) (a_nil) (by rfl))) (a_cons (e_tup hK (a_cons (e_int) (a_nil) (by rfl))) (a_nil) (by rfl)) (by rfl))) (a_nil) (by rfl)) (by rfl) (by rfl) (by rfl)) (a_cons (e_fun1 hK (pe_callB b_len (by rfl) W.b_len boot_len (pa_cons (ePE (e_call hK W.f_half_turns hr (by rfl) tk (a_cons (e_tup hK (a_cons (e_tup hK (a_cons (e_int) (a_cons (e_int) (a_cons (e_int) (a_nil) (by rfl)) (by rfl)) (by rfl))) (a_cons (e_tup hK (a_cons (e_int) (a_cons (e_int) (a_cons (e_int) (a_nil) (by rfl)) (by rfl)) (by rfl))) (a_nil) (by rfl)) (by rfl))) (a_nil) (by rfl)) (by rfl) (by rfl) (by rfl))) (pa_nil)))) (a_nil) (by rfl)) (by rfl)) (by rfl)))) (a_cons (fE (f_lst hK (a_cons (e_tup hK (a_cons (e_tup hK (a_cons (e_int) (a_cons (e_int) (a_cons (e_int) (a_nil) (by rfl)) (by rfl)) (by rfl))) (a_nil) (by rfl))) (a_cons (e_tup hK (a_cons (e_tup hK (a_cons (e_int) (a_nil) (by rfl))) (a_nil) (by rfl))) (a_cons (e_int) (a_nil) (by rfl)) (by rfl)) (by rfl)))) (a_nil) (by rfl)) (by rfl)) (by rfl) (by rfl) (by rfl))))
theorem law_fn (D : Fd K mg) (law : ∀ ns : List Int, ns.length ≤ 63 → ∃ δ', c_law ⟨callR 30⟩ (.val (.scr ns) :: .val .draw :: List.replicate (N_law.length - 2) .no) (dr0 ns) = .ok (.rt (.bl true)) δ') :
    ∃ fd : FuncData, (∀ (s : Shared) (v : Value), BindsTo s fd ⟨[v], []⟩ [("script", v)]) ∧ ∀ (P : Program) (w : World) (base : Heap), (∀ p ∈ ([("_law_right", none)] : List He.Defn).map (He.cT K), LamX.TabB base mg p.1 p.2) → FnOk P w K mg base (L2.CX P w) (90 + 2 + 1) (He.ga K "law") fd ["script"] (spLaw K (SS K).tabs) := by
  obtain ⟨fd, F⟩ := D.d_law
  have b := FunD.bindsA (ps := ["script"]) F fun _ _ _ _ _ _ us hl => match us, hl with | [_], _ => rfl
  refine ⟨fd, fun s v => b s [v] rfl, fun P w base TB => law_ok (S := SS K) (C := ⟨callR 30⟩) (c := c_law) (k := 90 + 2) (st := (defBody (top 47)).headD (.Pass ⟨0, 0, 0, 0⟩)) (rest := (defBody (top 47)).tail) F rfl sc_law rfl (by decide) (fun cdv A outer s H E hc hr => p_law D (TB _ (List.mem_singleton.mpr rfl)) hr) law⟩
end
def nm0 : List PySem.Str := ["SquareError", "BadSurface", "MOST_SQUARES", "is_number", "is_naming", "then_by", "back_by", "reached", "is_surface_of", "need_surface", "renamed_by", "walk_by", "renamings_by", "turned_by", "half_by", "half_turns", "_law_begun", "_law_mixed", "_law_take", "_law_pick", "_law_shuffled", "_law_caught", "_law_kinds", "_law_says", "_law_then", "_law_back", "_law_power", "_law_hangs", "_law_renamed", "_law_walk"]
def nm1 : List PySem.Str := ["_law_renamings", "_law_sheared", "_law_turned", "_law_moved", "_law_naming", "_law_surface", "_law_small_row", "_law_no_surface", "_law_halves", "_law_namings", "_law_right"]
def nms : List PySem.Str := nm0 ++ nm1
def d_is_number : He.DefD := ⟨("is_number", none), "is_number", "is_number", defArgs (top 5), defBody (top 5), defScope (top 5), [], []⟩
def d_is_naming : He.DefD := ⟨("is_naming", none), "is_naming", "is_naming", defArgs (top 6), defBody (top 6), defScope (top 6), [], []⟩
def d_then_by : He.DefD := ⟨("then_by", none), "then_by", "then_by", defArgs (top 7), defBody (top 7), defScope (top 7), [], []⟩
def d_back_by : He.DefD := ⟨("back_by", none), "back_by", "back_by", defArgs (top 8), defBody (top 8), defScope (top 8), [], []⟩
def d_reached : He.DefD := ⟨("reached", none), "reached", "reached", defArgs (top 9), defBody (top 9), defScope (top 9), [], []⟩
def d_is_surface_of : He.DefD := ⟨("is_surface_of", none), "is_surface_of", "is_surface_of", defArgs (top 10), defBody (top 10), defScope (top 10), [], []⟩
def d_need_surface : He.DefD := ⟨("need_surface", none), "need_surface", "need_surface", defArgs (top 11), defBody (top 11), defScope (top 11), [], []⟩
def d_renamed_by : He.DefD := ⟨("renamed_by", none), "renamed_by", "renamed_by", defArgs (top 12), defBody (top 12), defScope (top 12), [], []⟩
def d_walk_by : He.DefD := ⟨("walk_by", none), "walk_by", "walk_by", defArgs (top 13), defBody (top 13), defScope (top 13), [], []⟩
def d_renamings_by : He.DefD := ⟨("renamings_by", none), "renamings_by", "renamings_by", defArgs (top 15), defBody (top 15), defScope (top 15), [], []⟩
def d_turned_by : He.DefD := ⟨("turned_by", none), "turned_by", "turned_by", defArgs (top 17), defBody (top 17), defScope (top 17), [], []⟩
def d_half_by : He.DefD := ⟨("half_by", none), "half_by", "half_by", defArgs (top 19), defBody (top 19), defScope (top 19), [], []⟩
def d_half_turns : He.DefD := ⟨("half_turns", none), "half_turns", "half_turns", defArgs (top 20), defBody (top 20), defScope (top 20), [], []⟩
def d__law_mixed : He.DefD := ⟨("_law_mixed", none), "_law_mixed", "_law_mixed", defArgs (top 23), defBody (top 23), defScope (top 23), [], []⟩
def d__law_take : He.DefD := ⟨("_law_take", none), "_law_take", "_law_take", defArgs (top 24), defBody (top 24), defScope (top 24), [], []⟩
def d__law_pick : He.DefD := ⟨("_law_pick", none), "_law_pick", "_law_pick", defArgs (top 25), defBody (top 25), defScope (top 25), [], []⟩
def d__law_shuffled : He.DefD := ⟨("_law_shuffled", none), "_law_shuffled", "_law_shuffled", defArgs (top 26), defBody (top 26), defScope (top 26), [], []⟩
def d__law_kinds : He.DefD := ⟨("_law_kinds", none), "_law_kinds", "_law_kinds", defArgs (top 28), defBody (top 28), defScope (top 28), [], []⟩
def d__law_says : He.DefD := ⟨("_law_says", none), "_law_says", "_law_says", defArgs (top 29), defBody (top 29), defScope (top 29), [], []⟩
def d__law_then : He.DefD := ⟨("_law_then", none), "_law_then", "_law_then", defArgs (top 30), defBody (top 30), defScope (top 30), [], []⟩
def d__law_back : He.DefD := ⟨("_law_back", none), "_law_back", "_law_back", defArgs (top 31), defBody (top 31), defScope (top 31), [], []⟩
def d__law_power : He.DefD := ⟨("_law_power", none), "_law_power", "_law_power", defArgs (top 32), defBody (top 32), defScope (top 32), [], []⟩
def d__law_hangs : He.DefD := ⟨("_law_hangs", none), "_law_hangs", "_law_hangs", defArgs (top 33), defBody (top 33), defScope (top 33), [], []⟩
def d__law_renamed : He.DefD := ⟨("_law_renamed", none), "_law_renamed", "_law_renamed", defArgs (top 34), defBody (top 34), defScope (top 34), [], []⟩
def d__law_walk : He.DefD := ⟨("_law_walk", none), "_law_walk", "_law_walk", defArgs (top 35), defBody (top 35), defScope (top 35), [], []⟩
def d__law_renamings : He.DefD := ⟨("_law_renamings", none), "_law_renamings", "_law_renamings", defArgs (top 36), defBody (top 36), defScope (top 36), [], []⟩
def d__law_sheared : He.DefD := ⟨("_law_sheared", none), "_law_sheared", "_law_sheared", defArgs (top 37), defBody (top 37), defScope (top 37), [], []⟩
def d__law_turned : He.DefD := ⟨("_law_turned", none), "_law_turned", "_law_turned", defArgs (top 38), defBody (top 38), defScope (top 38), [], []⟩
def d__law_moved : He.DefD := ⟨("_law_moved", none), "_law_moved", "_law_moved", defArgs (top 39), defBody (top 39), defScope (top 39), [], []⟩
def d__law_naming : He.DefD := ⟨("_law_naming", none), "_law_naming", "_law_naming", defArgs (top 40), defBody (top 40), defScope (top 40), [], []⟩
def d__law_surface : He.DefD := ⟨("_law_surface", none), "_law_surface", "_law_surface", defArgs (top 41), defBody (top 41), defScope (top 41), [], []⟩
def d__law_small_row : He.DefD := ⟨("_law_small_row", none), "_law_small_row", "_law_small_row", defArgs (top 42), defBody (top 42), defScope (top 42), [], []⟩
def d__law_no_surface : He.DefD := ⟨("_law_no_surface", none), "_law_no_surface", "_law_no_surface", defArgs (top 43), defBody (top 43), defScope (top 43), [], []⟩
def d__law_halves : He.DefD := ⟨("_law_halves", none), "_law_halves", "_law_halves", defArgs (top 44), defBody (top 44), defScope (top 44), [], []⟩
def d__law_namings : He.DefD := ⟨("_law_namings", none), "_law_namings", "_law_namings", defArgs (top 45), defBody (top 45), defScope (top 45), [], []⟩
def d__law_right : He.DefD := ⟨("_law_right", none), "_law_right", "_law_right", defArgs (top 46), defBody (top 46), defScope (top 46), [], []⟩
def d__law_caught : He.DefD := ⟨("_law_caught", none), "_law_caught", "_law_caught", defArgs (top 27), defBody (top 27), defScope (top 27), [], []⟩
def d__law_begun : He.DefD := ⟨("_law_begun", none), "_law_begun", "_law_begun", defArgs (top 22), defBody (top 22), defScope (top 22), [], []⟩
def d_law : He.DefD := ⟨("law", none), "law", "law", defArgs (top 47), defBody (top 47), defScope (top 47), [], []⟩
def fn0 : List He.DefD := [d_is_number, d_is_naming, d_then_by, d_back_by, d_reached, d_is_surface_of, d_need_surface, d_renamed_by, d_walk_by, d_renamings_by, d_turned_by, d_half_by, d_half_turns, d__law_mixed, d__law_take, d__law_pick, d__law_shuffled, d__law_kinds, d__law_says, d__law_then, d__law_back, d__law_power, d__law_hangs, d__law_renamed, d__law_walk, d__law_renamings, d__law_sheared, d__law_turned, d__law_moved, d__law_naming]
def fn1 : List He.DefD := [d__law_surface, d__law_small_row, d__law_no_surface, d__law_halves, d__law_namings, d__law_right, d__law_caught, d__law_begun, d_law]
def fnL : List He.DefD := fn0 ++ fn1
def fa0 : List He.Fa := [.glo "is_number", .glo "is_naming", .glo "then_by", .glo "back_by", .glo "reached", .glo "is_surface_of", .glo "need_surface", .glo "renamed_by", .glo "walk_by", .glo "renamings_by", .glo "turned_by", .glo "half_by", .glo "half_turns", .glo "_law_mixed", .glo "_law_take", .glo "_law_pick", .glo "_law_shuffled", .glo "_law_kinds", .glo "_law_says", .glo "_law_then", .glo "_law_back", .glo "_law_power", .glo "_law_hangs", .glo "_law_renamed", .glo "_law_walk", .glo "_law_renamings", .glo "_law_sheared", .glo "_law_turned", .glo "_law_moved", .glo "_law_naming"]
def fa1 : List He.Fa := [.glo "_law_surface", .glo "_law_small_row", .glo "_law_no_surface", .glo "_law_halves", .glo "_law_namings", .glo "_law_right", .glo "_law_caught", .glo "_law_begun", .glo "law", .free "abs", .free "all", .free "bool", .free "dict", .free "enumerate", .free "int", .free "isinstance", .free "len", .free "list", .free "min", .free "range", .free "sorted", .free "sum", .free "tuple", .int "MOST_SQUARES" 6, .glo "BadSurface", .glo "SquareError"]
def faL : List He.Fa := fa0 ++ fa1
abbrev RR : PySem.W.OpenRow := PySem.W.OpenLaw.row PySem.Challenge.rw_squaresglued_k19_whole_half_turns
def txL : List (Str × D) := []
def tfL : List He.Defn := [("_law_right", none)]
def exB (K : PySem.W.Frag) : Bool := ktOk txL K && clsOk clL K
abbrev hk : PySem.W.Hook := He.hookX 5 faL fnL [] tfL exB
def ob (s : PySem.W.SharedT) : He.AlX := He.obsX 5 faL fnL [] tfL exB (HandSHeadRun.getT s)
theorem ob_eq (s : PySem.W.SharedT) : ob s = hk.obs s.abs := He.obsX_eq (HandSHeadRun.getT_eq s)
theorem run (w : World) : HandSHeadRun.RunEq RR (PySem.W.view RR.prog [47]) hk ob 6000 nms w := by
  intro os
  kernel_rfl
theorem facts {K : PySem.W.Frag} {h : Heap} {mg : Str → Option Value} (X : K.In h) (G : h.Ns mainGlobals mg) (c : He.SaysD faL fnL K ∧ ktOk txL K = true) (cc : clsOk clL K = true) : Fd K mg := {
  d_is_number := c.1.def_ 0 (d := d_is_number) rfl
  g_is_number := He.glo_ok X G (c.1.fact 0 (f := .glo "is_number") rfl)
  d_is_naming := c.1.def_ 1 (d := d_is_naming) rfl
  g_is_naming := He.glo_ok X G (c.1.fact 1 (f := .glo "is_naming") rfl)
  d_then_by := c.1.def_ 2 (d := d_then_by) rfl
  g_then_by := He.glo_ok X G (c.1.fact 2 (f := .glo "then_by") rfl)
  d_back_by := c.1.def_ 3 (d := d_back_by) rfl
  g_back_by := He.glo_ok X G (c.1.fact 3 (f := .glo "back_by") rfl)
  d_reached := c.1.def_ 4 (d := d_reached) rfl
  g_reached := He.glo_ok X G (c.1.fact 4 (f := .glo "reached") rfl)
  d_is_surface_of := c.1.def_ 5 (d := d_is_surface_of) rfl
  g_is_surface_of := He.glo_ok X G (c.1.fact 5 (f := .glo "is_surface_of") rfl)
  d_need_surface := c.1.def_ 6 (d := d_need_surface) rfl
  g_need_surface := He.glo_ok X G (c.1.fact 6 (f := .glo "need_surface") rfl)
  d_renamed_by := c.1.def_ 7 (d := d_renamed_by) rfl
  g_renamed_by := He.glo_ok X G (c.1.fact 7 (f := .glo "renamed_by") rfl)
  d_walk_by := c.1.def_ 8 (d := d_walk_by) rfl
  g_walk_by := He.glo_ok X G (c.1.fact 8 (f := .glo "walk_by") rfl)
  d_renamings_by := c.1.def_ 9 (d := d_renamings_by) rfl
  g_renamings_by := He.glo_ok X G (c.1.fact 9 (f := .glo "renamings_by") rfl)
  d_turned_by := c.1.def_ 10 (d := d_turned_by) rfl
  g_turned_by := He.glo_ok X G (c.1.fact 10 (f := .glo "turned_by") rfl)
  d_half_by := c.1.def_ 11 (d := d_half_by) rfl
  g_half_by := He.glo_ok X G (c.1.fact 11 (f := .glo "half_by") rfl)
  d_half_turns := c.1.def_ 12 (d := d_half_turns) rfl
  g_half_turns := He.glo_ok X G (c.1.fact 12 (f := .glo "half_turns") rfl)
  d__law_mixed := c.1.def_ 13 (d := d__law_mixed) rfl
  g__law_mixed := He.glo_ok X G (c.1.fact 13 (f := .glo "_law_mixed") rfl)
  d__law_take := c.1.def_ 14 (d := d__law_take) rfl
  g__law_take := He.glo_ok X G (c.1.fact 14 (f := .glo "_law_take") rfl)
  d__law_pick := c.1.def_ 15 (d := d__law_pick) rfl
  g__law_pick := He.glo_ok X G (c.1.fact 15 (f := .glo "_law_pick") rfl)
  d__law_shuffled := c.1.def_ 16 (d := d__law_shuffled) rfl
  g__law_shuffled := He.glo_ok X G (c.1.fact 16 (f := .glo "_law_shuffled") rfl)
  d__law_kinds := c.1.def_ 17 (d := d__law_kinds) rfl
  g__law_kinds := He.glo_ok X G (c.1.fact 17 (f := .glo "_law_kinds") rfl)
  d__law_says := c.1.def_ 18 (d := d__law_says) rfl
  g__law_says := He.glo_ok X G (c.1.fact 18 (f := .glo "_law_says") rfl)
  d__law_then := c.1.def_ 19 (d := d__law_then) rfl
  g__law_then := He.glo_ok X G (c.1.fact 19 (f := .glo "_law_then") rfl)
  d__law_back := c.1.def_ 20 (d := d__law_back) rfl
  g__law_back := He.glo_ok X G (c.1.fact 20 (f := .glo "_law_back") rfl)
  d__law_power := c.1.def_ 21 (d := d__law_power) rfl
  g__law_power := He.glo_ok X G (c.1.fact 21 (f := .glo "_law_power") rfl)
  d__law_hangs := c.1.def_ 22 (d := d__law_hangs) rfl
  g__law_hangs := He.glo_ok X G (c.1.fact 22 (f := .glo "_law_hangs") rfl)
  d__law_renamed := c.1.def_ 23 (d := d__law_renamed) rfl
  g__law_renamed := He.glo_ok X G (c.1.fact 23 (f := .glo "_law_renamed") rfl)
  d__law_walk := c.1.def_ 24 (d := d__law_walk) rfl
  g__law_walk := He.glo_ok X G (c.1.fact 24 (f := .glo "_law_walk") rfl)
  d__law_renamings := c.1.def_ 25 (d := d__law_renamings) rfl
  g__law_renamings := He.glo_ok X G (c.1.fact 25 (f := .glo "_law_renamings") rfl)
  d__law_sheared := c.1.def_ 26 (d := d__law_sheared) rfl
  g__law_sheared := He.glo_ok X G (c.1.fact 26 (f := .glo "_law_sheared") rfl)
  d__law_turned := c.1.def_ 27 (d := d__law_turned) rfl
  g__law_turned := He.glo_ok X G (c.1.fact 27 (f := .glo "_law_turned") rfl)
  d__law_moved := c.1.def_ 28 (d := d__law_moved) rfl
  g__law_moved := He.glo_ok X G (c.1.fact 28 (f := .glo "_law_moved") rfl)
  d__law_naming := c.1.def_ 29 (d := d__law_naming) rfl
  g__law_naming := He.glo_ok X G (c.1.fact 29 (f := .glo "_law_naming") rfl)
  d__law_surface := c.1.def_ 30 (d := d__law_surface) rfl
  g__law_surface := He.glo_ok X G (c.1.fact 30 (f := .glo "_law_surface") rfl)
  d__law_small_row := c.1.def_ 31 (d := d__law_small_row) rfl
  g__law_small_row := He.glo_ok X G (c.1.fact 31 (f := .glo "_law_small_row") rfl)
  d__law_no_surface := c.1.def_ 32 (d := d__law_no_surface) rfl
  g__law_no_surface := He.glo_ok X G (c.1.fact 32 (f := .glo "_law_no_surface") rfl)
  d__law_halves := c.1.def_ 33 (d := d__law_halves) rfl
  g__law_halves := He.glo_ok X G (c.1.fact 33 (f := .glo "_law_halves") rfl)
  d__law_namings := c.1.def_ 34 (d := d__law_namings) rfl
  g__law_namings := He.glo_ok X G (c.1.fact 34 (f := .glo "_law_namings") rfl)
  d__law_right := c.1.def_ 35 (d := d__law_right) rfl
  g__law_right := He.glo_ok X G (c.1.fact 35 (f := .glo "_law_right") rfl)
  d__law_begun := c.1.def_ 37 (d := d__law_begun) rfl
  g__law_begun := He.glo_ok X G (c.1.fact 37 (f := .glo "_law_begun") rfl)
  d_law := c.1.def_ 38 (d := d_law) rfl
  g_law := He.glo_ok X G (c.1.fact 38 (f := .glo "law") rfl)
  b_abs := He.free_ok X G (c.1.fact 39 (f := .free "abs") rfl)
  b_all := He.free_ok X G (c.1.fact 40 (f := .free "all") rfl)
  b_bool := He.free_ok X G (c.1.fact 41 (f := .free "bool") rfl)
  b_dict := He.free_ok X G (c.1.fact 42 (f := .free "dict") rfl)
  b_enumerate := He.free_ok X G (c.1.fact 43 (f := .free "enumerate") rfl)
  b_int := He.free_ok X G (c.1.fact 44 (f := .free "int") rfl)
  b_isinstance := He.free_ok X G (c.1.fact 45 (f := .free "isinstance") rfl)
  b_len := He.free_ok X G (c.1.fact 46 (f := .free "len") rfl)
  b_list := He.free_ok X G (c.1.fact 47 (f := .free "list") rfl)
  b_min := He.free_ok X G (c.1.fact 48 (f := .free "min") rfl)
  b_range := He.free_ok X G (c.1.fact 49 (f := .free "range") rfl)
  b_sorted := He.free_ok X G (c.1.fact 50 (f := .free "sorted") rfl)
  b_sum := He.free_ok X G (c.1.fact 51 (f := .free "sum") rfl)
  b_tuple := He.free_ok X G (c.1.fact 52 (f := .free "tuple") rfl)
  k_MOST_SQUARES := He.int_ok X G (c.1.fact 53 (f := .int "MOST_SQUARES" 6) rfl)
  cl := cc
  g_BadSurface := He.glo_ok X G (c.1.fact 54 (f := .glo "BadSurface") rfl)
  g_SquareError := He.glo_ok X G (c.1.fact 55 (f := .glo "SquareError") rfl)
  g__law_caught := He.glo_ok X G (c.1.fact 36 (f := .glo "_law_caught") rfl)
  caught := c.1.def_ 36 (d := d__law_caught) rfl
}
theorem law_holds (law : ∀ ns : List Int, ns.length ≤ 63 → ∃ δ', c_law ⟨callR 30⟩ (.val (.scr ns) :: .val .draw :: List.replicate (N_law.length - 2) .no) (dr0 ns) = .ok (.rt (.bl true)) δ') : PySem.Challenge.rw_squaresglued_k19_whole_half_turns.Holds := by
  w_on; o_law
  refine HandSHeadRun.head_any (r := PySem.W.OpenLaw.row PySem.Challenge.rw_squaresglued_k19_whole_half_turns) (q := PySem.W.view (PySem.W.OpenLaw.row PySem.Challenge.rw_squaresglued_k19_whole_half_turns).prog [47]) (H := hk) (ob := ob) (M := 6000) (loose := nms) (d := HandSHeadRun.topDef (PySem.W.OpenLaw.row PySem.Challenge.rw_squaresglued_k19_whole_half_turns).prog 47) (kwd := []) ob_eq
    (by kernel_rfl) (fun s => by kernel_rfl) run (by kernel_rfl) (by kernel_rfl) (by kernel_rfl) (by rfl) (by first | assumption | decide +kernel) (by decide +kernel) ⟨rfl, rfl, rfl, rfl, rfl, by decide +kernel⟩ ?hw ?hc
  case hw => w_witness2
  case hc =>
    refine LamX.walk_ofTsE (l := PySem.Challenge.rw_squaresglued_k19_whole_half_turns) (n := 63) (k := 90 + 2 + 1) (x := "script") (CX := fun w => L2.CX (PySem.Challenge.rw_squaresglued_k19_whole_half_turns).prog w) rfl (by decide) (by kernel_rfl) ⟨rfl, by decide, by decide⟩ ?F (fun _ _ _ _ _ z => cx_none z)
    intro w mg fa h Y G hmg0
    obtain ⟨K, KX, c⟩ := Y
    have hmg : mg ("law" : PySem.Str) = some (.ref fa) := by
      have e : (HandSHeadRun.topDef (PySem.W.OpenLaw.row PySem.Challenge.rw_squaresglued_k19_whole_half_turns).prog 47).name = ("law" : PySem.Str) := by kernel_rfl
      rw [← e]
      exact hmg0
    have D := facts KX G ⟨c.t.d, (He.ba c.more).1⟩ (He.ba c.more).2
    have e := hmg.symm.trans D.g_law
    cases e
    obtain ⟨fd, hb, ok⟩ := law_fn D law
    refine ⟨K, KX, fd, tfL.map (He.cT K), spLaw K (SS K).tabs, ?_, ?_, ?_, hb, ?_, fun base _ _ TB => ok _ _ base TB⟩
    · intro p hp
      obtain ⟨d, hd, rfl⟩ := List.mem_map.mp hp
      exact c.empty d hd
    · intro p hp
      obtain ⟨d, hd, rfl⟩ := List.mem_map.mp hp
      exact c.out d hd
    · intro p hp
      obtain ⟨d, hd, rfl⟩ := List.mem_map.mp hp
      exact PySem.W.codeHd_of_K KX (c.hd d hd)
    · intro H a ns hl _ hT hS
      exact ⟨a, ns, rfl, hS, hl, fun p hp => by
        rw [List.mem_singleton.mp hp]
        exact LamX.TabS.nil (hT _ (List.mem_map.mpr ⟨("_law_right", none), List.mem_singleton.mpr rfl, rfl⟩)), fun _ => rfl⟩
end SG

namespace SG
open PySem PySem.Spec L2
open PyProof.Rows hiding St
theorem call_ex : ∃ c : Nat → Nat → List D → M D, c = callR := ⟨callR, rfl⟩
/-- the calls, closed -/
noncomputable def callN : Nat → Nat → List D → M D := Classical.choose call_ex
theorem callN_eq : callN = callR := Classical.choose_spec call_ex
theorem cn_is_number (k : Nat) : callN (k + 1) i_is_number = runF 1 1 c_is_number ⟨callN k⟩ := by rw [callN_eq]; exact cnR_is_number k
theorem cn_is_naming (k : Nat) : callN (k + 1) i_is_naming = runF 3 2 c_is_naming ⟨callN k⟩ := by rw [callN_eq]; exact cnR_is_naming k
theorem cn_then_by (k : Nat) : callN (k + 1) i_then_by = runF 3 2 c_then_by ⟨callN k⟩ := by rw [callN_eq]; exact cnR_then_by k
theorem cn_back_by (k : Nat) : callN (k + 1) i_back_by = runF 4 1 c_back_by ⟨callN k⟩ := by rw [callN_eq]; exact cnR_back_by k
theorem cn_reached (k : Nat) : callN (k + 1) i_reached = runF 6 2 c_reached ⟨callN k⟩ := by rw [callN_eq]; exact cnR_reached k
theorem cn_is_surface_of (k : Nat) : callN (k + 1) i_is_surface_of = runF 2 1 c_is_surface_of ⟨callN k⟩ := by rw [callN_eq]; exact cnR_is_surface_of k
theorem cn_need_surface (k : Nat) : callN (k + 1) i_need_surface = runF 1 1 c_need_surface ⟨callN k⟩ := by rw [callN_eq]; exact cnR_need_surface k
theorem cn_renamed_by (k : Nat) : callN (k + 1) i_renamed_by = runF 4 2 c_renamed_by ⟨callN k⟩ := by rw [callN_eq]; exact cnR_renamed_by k
theorem cn_walk_by (k : Nat) : callN (k + 1) i_walk_by = runF 8 2 c_walk_by ⟨callN k⟩ := by rw [callN_eq]; exact cnR_walk_by k
theorem cn_renamings_by (k : Nat) : callN (k + 1) i_renamings_by = runF 6 2 c_renamings_by ⟨callN k⟩ := by rw [callN_eq]; exact cnR_renamings_by k
theorem cn_turned_by (k : Nat) : callN (k + 1) i_turned_by = runF 3 2 c_turned_by ⟨callN k⟩ := by rw [callN_eq]; exact cnR_turned_by k
theorem cn_half_by (k : Nat) : callN (k + 1) i_half_by = runF 1 1 c_half_by ⟨callN k⟩ := by rw [callN_eq]; exact cnR_half_by k
theorem cn_half_turns (k : Nat) : callN (k + 1) i_half_turns = runF 1 1 c_half_turns ⟨callN k⟩ := by rw [callN_eq]; exact cnR_half_turns k
theorem cn__law_mixed (k : Nat) : callN (k + 1) i__law_mixed = runF 6 1 c__law_mixed ⟨callN k⟩ := by rw [callN_eq]; exact cnR__law_mixed k
theorem cn__law_take (k : Nat) : callN (k + 1) i__law_take = runF 3 2 c__law_take ⟨callN k⟩ := by rw [callN_eq]; exact cnR__law_take k
theorem cn__law_pick (k : Nat) : callN (k + 1) i__law_pick = runF 2 2 c__law_pick ⟨callN k⟩ := by rw [callN_eq]; exact cnR__law_pick k
theorem cn__law_shuffled (k : Nat) : callN (k + 1) i__law_shuffled = runF 4 2 c__law_shuffled ⟨callN k⟩ := by rw [callN_eq]; exact cnR__law_shuffled k
theorem cn__law_kinds (k : Nat) : callN (k + 1) i__law_kinds = runF 8 1 c__law_kinds ⟨callN k⟩ := by rw [callN_eq]; exact cnR__law_kinds k
theorem cn__law_says (k : Nat) : callN (k + 1) i__law_says = runF 2 2 c__law_says ⟨callN k⟩ := by rw [callN_eq]; exact cnR__law_says k
theorem cn__law_then (k : Nat) : callN (k + 1) i__law_then = runF 3 2 c__law_then ⟨callN k⟩ := by rw [callN_eq]; exact cnR__law_then k
theorem cn__law_back (k : Nat) : callN (k + 1) i__law_back = runF 2 1 c__law_back ⟨callN k⟩ := by rw [callN_eq]; exact cnR__law_back k
theorem cn__law_power (k : Nat) : callN (k + 1) i__law_power = runF 5 2 c__law_power ⟨callN k⟩ := by rw [callN_eq]; exact cnR__law_power k
theorem cn__law_hangs (k : Nat) : callN (k + 1) i__law_hangs = runF 6 2 c__law_hangs ⟨callN k⟩ := by rw [callN_eq]; exact cnR__law_hangs k
theorem cn__law_renamed (k : Nat) : callN (k + 1) i__law_renamed = runF 5 2 c__law_renamed ⟨callN k⟩ := by rw [callN_eq]; exact cnR__law_renamed k
theorem cn__law_walk (k : Nat) : callN (k + 1) i__law_walk = runF 7 2 c__law_walk ⟨callN k⟩ := by rw [callN_eq]; exact cnR__law_walk k
theorem cn__law_renamings (k : Nat) : callN (k + 1) i__law_renamings = runF 6 2 c__law_renamings ⟨callN k⟩ := by rw [callN_eq]; exact cnR__law_renamings k
theorem cn__law_sheared (k : Nat) : callN (k + 1) i__law_sheared = runF 2 2 c__law_sheared ⟨callN k⟩ := by rw [callN_eq]; exact cnR__law_sheared k
theorem cn__law_turned (k : Nat) : callN (k + 1) i__law_turned = runF 4 2 c__law_turned ⟨callN k⟩ := by rw [callN_eq]; exact cnR__law_turned k
theorem cn__law_moved (k : Nat) : callN (k + 1) i__law_moved = runF 5 2 c__law_moved ⟨callN k⟩ := by rw [callN_eq]; exact cnR__law_moved k
theorem cn__law_naming (k : Nat) : callN (k + 1) i__law_naming = runF 2 2 c__law_naming ⟨callN k⟩ := by rw [callN_eq]; exact cnR__law_naming k
theorem cn__law_surface (k : Nat) : callN (k + 1) i__law_surface = runF 9 2 c__law_surface ⟨callN k⟩ := by rw [callN_eq]; exact cnR__law_surface k
theorem cn__law_small_row (k : Nat) : callN (k + 1) i__law_small_row = runF 3 2 c__law_small_row ⟨callN k⟩ := by rw [callN_eq]; exact cnR__law_small_row k
theorem cn__law_no_surface (k : Nat) : callN (k + 1) i__law_no_surface = runF 2 1 c__law_no_surface ⟨callN k⟩ := by rw [callN_eq]; exact cnR__law_no_surface k
theorem cn__law_halves (k : Nat) : callN (k + 1) i__law_halves = runF 2 1 c__law_halves ⟨callN k⟩ := by rw [callN_eq]; exact cnR__law_halves k
theorem cn__law_namings (k : Nat) : callN (k + 1) i__law_namings = runF 5 1 c__law_namings ⟨callN k⟩ := by rw [callN_eq]; exact cnR__law_namings k
theorem cn__law_right (k : Nat) : callN (k + 1) i__law_right = runF 11 1 c__law_right ⟨callN k⟩ := by rw [callN_eq]; exact cnR__law_right k
end SG
set_option Elab.async false
set_option linter.all false
set_option maxRecDepth 100000
set_option maxHeartbeats 1000000
namespace SG
open PySem PySem.Spec L2
open PyProof.Rows hiding St
/-! ### reckoning with the combinators -/
section
variable {α β : Type} {m : M α} {f : α → M β} {δ δ' δ1 : Dr} {a : α} {C : Ctx} {ρ : Sls} {t ta tb : DE} {r : DA} {d e : D} {ds : List D}
theorem bind_to (h : m δ = .ok a δ1) : (m >>= f) δ = f a δ1 := by rw [bind_eq, h]
theorem peek_val {i : Nat} (h : ρ[i]? = some (.val d)) : dPeek i C ρ δ = .ok d δ := by unfold dPeek; rw [h]; rfl
theorem peek_own {i : Nat} (h : ρ[i]? = some (.own d)) : dPeek i C ρ δ = .ok d δ := by unfold dPeek; rw [h]; rfl
theorem var_val {i : Nat} (h : ρ[i]? = some (.val d)) : dVar i C ρ δ = .ok d δ := by unfold dVar; rw [h]; rfl
/-! ### comprehensions -/
theorem lcM_map {g : Tg} {tt : DT} {te : DE} {p : D → Bool} {y : D → D} : ∀ {ds : List D}, (∀ d ∈ ds, ∃ ρ1, bindT g d ρ = some ρ1 ∧ (∀ δ, tt C ρ1 δ = .ok (p d) δ) ∧ (p d = true → ∀ δ, te C ρ1 δ = .ok (y d) δ)) →
    lcM C ρ g tt te ds δ = .ok ((ds.filter p).map y) δ
  | [], _ => rfl
  | d :: ds, h => by
    obtain ⟨ρ1, h1, h2, h3⟩ := h d List.mem_cons_self
    have ih := lcM_map (ds := ds) fun e he => h e (List.mem_cons_of_mem _ he)
    unfold lcM
    rw [h1]
    have t1 : noX (tt C ρ1) δ = .ok (p d) δ := by unfold noX; rw [h2]
    show (noX (tt C ρ1) >>= _) δ = _
    rw [bind_to t1]
    cases hp : p d with
    | false =>
      rw [List.filter_cons_of_neg (by simp [hp])]
      exact ih
    | true =>
      have t2 : noX (te C ρ1) δ = .ok (y d) δ := by unfold noX; rw [h3 hp]
      rw [List.filter_cons_of_pos hp]
      show (noX (te C ρ1) >>= _) δ = _
      rw [bind_to t2, bind_to ih]
      rfl
theorem lc_map {it : DI} {g : Tg} {tt : DT} {te : DE} {vs : List Nat} {p : D → Bool} {y : D → D} (hi : it C ρ δ = .ok ds δ1) (ho : ownless ρ vs = true) (hl : ds.length ≤ LINE)
    (h : ∀ d ∈ ds, ∃ ρ1, bindT g d (wipeR ρ vs) = some ρ1 ∧ (∀ δ, tt C ρ1 δ = .ok (p d) δ) ∧ (p d = true → ∀ δ, te C ρ1 δ = .ok (y d) δ)) :
    dLc it g tt te vs C ρ δ = .ok (.lst ((ds.filter p).map y)) δ1 := by
  unfold dLc
  rw [bind_to hi, ho, decide_eq_true hl]
  show (noX _ >>= _) δ1 = _
  have t : noX (lcM C (wipeR ρ vs) g tt te ds) δ1 = .ok ((ds.filter p).map y) δ1 := by unfold noX; rw [lcM_map h]
  rw [bind_to t]
  rfl
/-- without a test -/
theorem lc_all {it : DI} {g : Tg} {te : DE} {vs : List Nat} {y : D → D} (hi : it C ρ δ = .ok ds δ1) (ho : ownless ρ vs = true) (hl : ds.length ≤ LINE)
    (h : ∀ d ∈ ds, ∃ ρ1, bindT g d (wipeR ρ vs) = some ρ1 ∧ ∀ δ, te C ρ1 δ = .ok (y d) δ) : dLc it g (fun _ _ => M.pure true) te vs C ρ δ = .ok (.lst (ds.map y)) δ1 := by
  have := lc_map (p := fun _ => true) (tt := fun _ _ => M.pure true) (te := te) (y := y) hi ho hl fun d hd => by
    obtain ⟨ρ1, h1, h2⟩ := h d hd
    exact ⟨ρ1, h1, fun _ => rfl, fun _ => h2⟩
  rw [List.filter_eq_self.mpr fun _ _ => rfl] at this
  exact this
/-- with draws: P holds of each -/
theorem lcM_ex {g : Tg} {te : DE} {P : D → D → Prop} : ∀ {ds : List D} {δ : Dr}, (∀ d ∈ ds, ∃ ρ1, bindT g d ρ = some ρ1 ∧ ∀ δ, ∃ y δ', te C ρ1 δ = .ok y δ' ∧ P d y) →
    ∃ ys δ', lcM C ρ g (fun _ _ => M.pure true) te ds δ = .ok ys δ' ∧ ys.length = ds.length ∧ ∀ i (h : i < ds.length) (h' : i < ys.length), P ds[i] ys[i]
  | [], δ, _ => ⟨[], δ, rfl, rfl, fun i h => absurd h (Nat.not_lt_zero i)⟩
  | d :: ds, δ, h => by
    obtain ⟨ρ1, h1, h2⟩ := h d List.mem_cons_self
    obtain ⟨y, δ2, h3, h4⟩ := h2 δ
    obtain ⟨ys, δ3, h5, h6, h7⟩ := lcM_ex (ds := ds) (δ := δ2) fun e he => h e (List.mem_cons_of_mem _ he)
    refine ⟨y :: ys, δ3, ?_, by rw [List.length_cons, List.length_cons, h6], fun i hi hi' => ?_⟩
    · unfold lcM
      rw [h1]
      have t1 : noX (M.pure true) δ = .ok true δ := rfl
      have t2 : noX (te C ρ1) δ = .ok y δ2 := by unfold noX; rw [h3]
      show (noX (M.pure true) >>= _) δ = _
      rw [bind_to t1]
      show (noX (te C ρ1) >>= _) δ = _
      rw [bind_to t2, bind_to h5]
      rfl
    · cases i with
      | zero => exact h4
      | succ i => exact h7 i (Nat.lt_of_succ_lt_succ hi) (Nat.lt_of_succ_lt_succ hi')
theorem lc_ex {it : DI} {g : Tg} {te : DE} {vs : List Nat} {P : D → D → Prop} (hi : it C ρ δ = .ok ds δ1) (ho : ownless ρ vs = true) (hl : ds.length ≤ LINE)
    (h : ∀ d ∈ ds, ∃ ρ1, bindT g d (wipeR ρ vs) = some ρ1 ∧ ∀ δ, ∃ y δ', te C ρ1 δ = .ok y δ' ∧ P d y) :
    ∃ ys δ', dLc it g (fun _ _ => M.pure true) te vs C ρ δ = .ok (.lst ys) δ' ∧ ys.length = ds.length ∧ ∀ i (h : i < ds.length) (h' : i < ys.length), P ds[i] ys[i] := by
  obtain ⟨ys, δ', h1, h2, h3⟩ := lcM_ex (δ := δ1) h
  refine ⟨ys, δ', ?_, h2, h3⟩
  unfold dLc
  rw [bind_to hi, ho, decide_eq_true hl]
  show (noX _ >>= _) δ1 = _
  have t : noX (lcM C (wipeR ρ vs) g (fun _ _ => M.pure true) te ds) δ1 = .ok ys δ' := by unfold noX; rw [h1]
  rw [bind_to t]
  rfl
/-! ### loops -/
theorem for_cons {g : Tg} {b : DS} {ρ1 : Sls} {fl : Fl} (h : bindT g d ρ = some ρ1) (hb : b C ρ1 δ = .ok fl δ1) : forM' g b C (d :: ds) ρ δ = afterB fl (forM' g b C ds) δ1 := by
  rw [forM', h]
  exact bind_to hb
theorem dFor_to {it : DI} {g : Tg} {b : DS} (h : it C ρ δ = .ok ds δ1) : dFor it g b C ρ δ = forM' g b C ds ρ δ1 := by
  unfold dFor
  exact bind_to h
/-- an invariant by the turn -/
theorem for_inv {g : Tg} {b : DS} (I : Nat → Sls → Dr → Prop) {ds : List D} (h : ∀ i (hi : i < ds.length) ρ δ, I i ρ δ → ∃ ρ1 ρ2 δ2, bindT g ds[i] ρ = some ρ1 ∧ (b C ρ1 δ = .ok (.nx ρ2) δ2 ∨ b C ρ1 δ = .ok (.ct ρ2) δ2) ∧ I (i + 1) ρ2 δ2) (h0 : I 0 ρ δ) :
    ∃ ρ' δ', forM' g b C ds ρ δ = .ok (.nx ρ') δ' ∧ I ds.length ρ' δ' := by
  have key : ∀ k i ρ δ, i + k = ds.length → I i ρ δ → ∃ ρ' δ', forM' g b C (ds.drop i) ρ δ = .ok (.nx ρ') δ' ∧ I ds.length ρ' δ' := by
    intro k
    induction k with
    | zero =>
      intro i ρ δ hi hI
      have : i = ds.length := by omega
      subst this
      rw [List.drop_length]
      exact ⟨ρ, δ, rfl, hI⟩
    | succ k ih =>
      intro i ρ δ hi hI
      have hlt : i < ds.length := by omega
      obtain ⟨ρ1, ρ2, δ2, h1, h2, h3⟩ := h i hlt ρ δ hI
      obtain ⟨ρ', δ', h4, h5⟩ := ih (i + 1) ρ2 δ2 (by omega) h3
      refine ⟨ρ', δ', ?_, h5⟩
      rw [List.drop_eq_getElem_cons hlt]
      rcases h2 with h2 | h2
      · rw [for_cons h1 h2]; exact h4
      · rw [for_cons h1 h2]; exact h4
  exact key ds.length 0 ρ δ (by omega) h0
theorem whN_mono {t : DT} {b : DS} : ∀ {n m : Nat} {ρ : Sls} {δ : Dr}, whN t b C n ρ δ ≠ .fail → n ≤ m → whN t b C m ρ δ = whN t b C n ρ δ
  | 0, _, _, _, h, _ => absurd rfl h
  | n + 1, 0, _, _, _, h => absurd h (Nat.not_succ_le_zero n)
  | n + 1, m + 1, ρ, δ, h, hm => by
    have q := fun {ρ δ} h => whN_mono (t := t) (b := b) (n := n) (m := m) (ρ := ρ) (δ := δ) h (Nat.le_of_succ_le_succ hm)
    unfold whN at h ⊢
    rw [bind_eq] at h ⊢
    rw [bind_eq]
    cases ht : t C ρ δ with
    | fail => rfl
    | exc c as δ' => rfl
    | ok k δ1 =>
      simp only [ht] at h ⊢
      cases k with
      | false => rfl
      | true =>
        simp only at h ⊢
        rw [bind_eq] at h ⊢
        rw [bind_eq]
        cases hb : b C ρ δ1 with
        | fail => rfl
        | exc c as δ' => rfl
        | ok f δ2 =>
          simp only [hb] at h ⊢
          cases f with
          | nx ρ' => exact q h
          | ct ρ' => exact q h
          | bk ρ' => rfl
          | rt d => rfl
theorem dWhile_of {t : DT} {b : DS} {n : Nat} {r : Res Fl} (h : whN t b C n ρ δ = r) (hr : r ≠ .fail) : dWhile t b C ρ δ = r := by
  have ex : ∃ n, whN t b C n ρ δ ≠ .fail := ⟨n, h ▸ hr⟩
  unfold dWhile
  rw [dif_pos ex]
  have hc := Classical.choose_spec ex
  have e1 := whN_mono hc (Nat.le_max_left (Classical.choose ex) n)
  have e2 := whN_mono (show whN t b C n ρ δ ≠ .fail from h ▸ hr) (Nat.le_max_right (Classical.choose ex) n)
  rw [← e1, e2, h]
/-- an invariant with a measure -/
theorem while_inv {t : DT} {b : DS} (I : Sls → Dr → Prop) (J : Sls → Dr → Prop) (μ : Sls → Nat) (h : ∀ ρ δ, I ρ δ → (t C ρ δ = .ok false δ ∧ J ρ δ) ∨ (t C ρ δ = .ok true δ ∧ ∃ ρ2 δ2, b C ρ δ = .ok (.nx ρ2) δ2 ∧ I ρ2 δ2 ∧ μ ρ2 < μ ρ)) (h0 : I ρ δ) :
    ∃ ρ' δ', dWhile t b C ρ δ = .ok (.nx ρ') δ' ∧ J ρ' δ' := by
  have key : ∀ m ρ δ, μ ρ ≤ m → I ρ δ → ∃ n ρ' δ', whN t b C n ρ δ = .ok (.nx ρ') δ' ∧ J ρ' δ' := by
    intro m
    induction m with
    | zero =>
      intro ρ δ hm hI
      rcases h ρ δ hI with ⟨h1, h2⟩ | ⟨h1, ρ2, δ2, _, _, h4⟩
      · exact ⟨1, ρ, δ, by unfold whN; rw [bind_to h1]; rfl, h2⟩
      · omega
    | succ m ih =>
      intro ρ δ hm hI
      rcases h ρ δ hI with ⟨h1, h2⟩ | ⟨h1, ρ2, δ2, h2, h3, h4⟩
      · exact ⟨1, ρ, δ, by unfold whN; rw [bind_to h1]; rfl, h2⟩
      · obtain ⟨n, ρ', δ', h5, h6⟩ := ih ρ2 δ2 (by omega) h3
        refine ⟨n + 1, ρ', δ', ?_, h6⟩
        unfold whN
        rw [bind_to h1]
        show (b C ρ >>= _) δ = _
        rw [bind_to h2]
        exact h5
  obtain ⟨n, ρ', δ', h1, h2⟩ := key _ ρ δ (Nat.le_refl _) h0
  exact ⟨ρ', δ', dWhile_of h1 (by simp), h2⟩
/-! ### statements in sequence -/
theorem seq_nx {a b : DS} {ρ' : Sls} (h : a C ρ δ = .ok (.nx ρ') δ1) : dSeq a b C ρ δ = b C ρ' δ1 := by
  unfold dSeq; rw [bind_to h]
theorem seq_rt {a b : DS} (h : a C ρ δ = .ok (.rt d) δ1) : dSeq a b C ρ δ = .ok (.rt d) δ1 := by
  unfold dSeq; rw [bind_to h]; rfl
theorem run_rt {n p : Nat} {s : DS} (hp : ds.length = p) (hn : p ≤ n) (h : s C (ds.map Sl.val ++ List.replicate (n - ds.length) .no) δ = .ok (.rt d) δ1) : runF n p s C ds δ = .ok d δ1 := by
  unfold runF; rw [if_pos ⟨hp, hn⟩, h]
theorem run_nx {n p : Nat} {s : DS} {ρ' : Sls} (hp : ds.length = p) (hn : p ≤ n) (h : s C (ds.map Sl.val ++ List.replicate (n - ds.length) .no) δ = .ok (.nx ρ') δ1) : runF n p s C ds δ = .ok .non δ1 := by
  unfold runF; rw [if_pos ⟨hp, hn⟩, h]
end
end SG


set_option Elab.async false
set_option linter.all false
set_option maxRecDepth 100000
set_option maxHeartbeats 1000000
namespace SG
open PySem PySem.Spec L2
open PyProof.Rows hiding St
/-! ### one combinator's value -/
section
variable {δ δ1 δ2 δ3 : Dr} {C : Ctx} {ρ ρ' : Sls} {t ta tb tc : DE} {u ua ub : DT} {r : DA} {d e x y z : D} {ds es : List D} {b k : Bool} {s s1 s2 : Sl} {za zb zc : DZ} {sa sb : DS} {fl : Fl}
theorem seq_to {q : Res Fl} (h : sa C ρ δ = .ok (.nx ρ') δ1) (h2 : sb C ρ' δ1 = q) : dSeq sa sb C ρ δ = q := by rw [seq_nx h]; exact h2
theorem c_to : dC d C ρ δ = .ok d δ := rfl
theorem ret_to (h : t C ρ δ = .ok d δ1) : dRet t C ρ δ = .ok (.rt d) δ1 := by unfold dRet; rw [bind_to h]; rfl
theorem drop_to (h : t C ρ δ = .ok d δ1) : dDrop t C ρ δ = .ok (.nx ρ) δ1 := by unfold dDrop; rw [bind_to h]; rfl
theorem fun1_to {g : D → Option D} (h : t C ρ δ = .ok d δ1) (hg : g d = some e) : dFun1 g t C ρ δ = .ok e δ1 := by unfold dFun1; rw [bind_to h, hg]; rfl
theorem fun2_to {g : D → D → Option D} (h : ta C ρ δ = .ok x δ1) (h2 : tb C ρ δ1 = .ok y δ2) (hg : g x y = some e) : dFun2 g ta tb C ρ δ = .ok e δ2 := by unfold dFun2; rw [bind_to h, bind_to h2, hg]; rfl
theorem bin_to {op : Operator} (h : ta C ρ δ = .ok x δ1) (h2 : tb C ρ δ1 = .ok y δ2) (hg : binSem op x y = some e) : dBin op ta tb C ρ δ = .ok e δ2 := by unfold dBin; rw [bind_to h, bind_to h2, hg]; rfl
theorem cmp_to {op : CmpOp} (h : ta C ρ δ = .ok x δ1) (h2 : tb C ρ δ1 = .ok y δ2) (hg : cmpSem op x y = some b) : dCmp op ta tb C ρ δ = .ok b δ2 := by unfold dCmp; rw [bind_to h, bind_to h2, hg]; rfl
theorem chain_t {op op' : CmpOp} (h : ta C ρ δ = .ok x δ1) (h2 : tb C ρ δ1 = .ok y δ2) (hg : cmpSem op x y = some true) (h3 : tc C ρ δ2 = .ok z δ3) (hg2 : cmpSem op' y z = some b) : dChain op op' ta tb tc C ρ δ = .ok b δ3 := by
  unfold dChain
  rw [bind_to h, bind_to h2, hg]
  show (tc C ρ >>= _) δ2 = _
  rw [bind_to h3, hg2]; rfl
theorem chain_f {op op' : CmpOp} (h : ta C ρ δ = .ok x δ1) (h2 : tb C ρ δ1 = .ok y δ2) (hg : cmpSem op x y = some false) : dChain op op' ta tb tc C ρ δ = .ok false δ2 := by
  unfold dChain
  rw [bind_to h, bind_to h2, hg]; rfl
theorem ix_to (h : ta C ρ δ = .ok x δ1) (h2 : tb C ρ δ1 = .ok y δ2) (hg : ixSem x y = some e) : dIx ta tb C ρ δ = .ok e δ2 := by unfold dIx; rw [bind_to h, bind_to h2, hg]; rfl
theorem bl_to (h : u C ρ δ = .ok b δ1) : dBl u C ρ δ = .ok (.bl b) δ1 := by unfold dBl; rw [bind_to h]; rfl
theorem tst_to (h : t C ρ δ = .ok (.bl b) δ1) : dTst t C ρ δ = .ok b δ1 := by unfold dTst; rw [bind_to h]; rfl
theorem not_to (h : u C ρ δ = .ok b δ1) : dNot u C ρ δ = .ok (!b) δ1 := by unfold dNot; rw [bind_to h]; rfl
theorem notV_to (h : t C ρ δ = .ok (.bl b) δ1) : dNotV t C ρ δ = .ok (.bl (!b)) δ1 := by unfold dNotV; rw [bind_to h]; rfl
theorem and_t (h : ua C ρ δ = .ok true δ1) (h2 : ub C ρ δ1 = .ok b δ2) : dAnd ua ub C ρ δ = .ok b δ2 := by unfold dAnd; rw [bind_to h]; exact h2
theorem and_f (h : ua C ρ δ = .ok false δ1) : dAnd ua ub C ρ δ = .ok false δ1 := by unfold dAnd; rw [bind_to h]; rfl
theorem or_t (h : ua C ρ δ = .ok true δ1) : dOr ua ub C ρ δ = .ok true δ1 := by unfold dOr; rw [bind_to h]; rfl
theorem or_f (h : ua C ρ δ = .ok false δ1) (h2 : ub C ρ δ1 = .ok b δ2) : dOr ua ub C ρ δ = .ok b δ2 := by unfold dOr; rw [bind_to h]; exact h2
theorem andV_t (h : ta C ρ δ = .ok (.bl true) δ1) (h2 : tb C ρ δ1 = .ok d δ2) : dAndV ta tb C ρ δ = .ok d δ2 := by unfold dAndV; rw [bind_to h]; exact h2
theorem if_t (h : u C ρ δ = .ok true δ1) (h2 : ta C ρ δ1 = .ok d δ2) : dIf u ta tb C ρ δ = .ok d δ2 := by unfold dIf; rw [bind_to h]; exact h2
theorem if_f (h : u C ρ δ = .ok false δ1) (h2 : tb C ρ δ1 = .ok d δ2) : dIf u ta tb C ρ δ = .ok d δ2 := by unfold dIf; rw [bind_to h]; exact h2
theorem ifs_t (h : u C ρ δ = .ok true δ1) (h2 : sa C ρ δ1 = .ok fl δ2) : dIfS u sa sb C ρ δ = .ok fl δ2 := by unfold dIfS; rw [bind_to h]; exact h2
theorem ifs_f (h : u C ρ δ = .ok false δ1) (h2 : sb C ρ δ1 = .ok fl δ2) : dIfS u sa sb C ρ δ = .ok fl δ2 := by unfold dIfS; rw [bind_to h]; exact h2
theorem ifs_nop (h : u C ρ δ = .ok false δ1) : dIfS u sa dNop C ρ δ = .ok (.nx ρ) δ1 := ifs_f h rfl
theorem neg_to {i : Int} (h : t C ρ δ = .ok (.int i) δ1) : dNeg t C ρ δ = .ok (.int (-i)) δ1 := by unfold dNeg; rw [bind_to h]; rfl
theorem nil_to : dNil C ρ δ = .ok [] δ := rfl
theorem cons_to (h : t C ρ δ = .ok d δ1) (h2 : r C ρ δ1 = .ok ds δ2) : dCons t r C ρ δ = .ok (d :: ds) δ2 := by unfold dCons; rw [bind_to h, bind_to h2]; rfl
theorem tup_to (h : r C ρ δ = .ok ds δ1) (hl : ds.length ≤ LINE) : dTup r C ρ δ = .ok (.tup ds) δ1 := by unfold dTup lineD; rw [bind_to h, if_pos hl]; rfl
theorem lst_to (h : r C ρ δ = .ok ds δ1) (hl : ds.length ≤ LINE) : dLst r C ρ δ = .ok (.lst ds) δ1 := by unfold dLst lineD; rw [bind_to h, if_pos hl]; rfl
theorem call_to {n : Nat} (h : r C ρ δ = .ok ds δ1) (h2 : C.call n ds δ1 = .ok d δ2) : dCall n r C ρ δ = .ok d δ2 := by unfold dCall; rw [bind_to h]; exact h2
theorem it_to (h : t C ρ δ = .ok d δ1) (hi : itSem d = some ds) : dIt t C ρ δ = .ok ds δ1 := by unfold dIt; rw [bind_to h, hi]; rfl
theorem rng1_to {n : Nat} (h : t C ρ δ = .ok (.int n) δ1) (hn : n < 2 ^ 62) : dRng1 t C ρ δ = .ok (rngD 0 n) δ1 := by
  unfold dRng1
  rw [bind_to h]
  unfold sRng1
  simp only
  rw [if_pos (by omega)]; rfl
theorem enum_to (h : t C ρ δ = .ok d δ1) (hi : sEnum d = some ds) : dEnum t C ρ δ = .ok ds δ1 := by unfold dEnum; rw [bind_to h, hi]; rfl
theorem rg1_to {k : List D → D} {n : Nat} (h : t C ρ δ = .ok (.int n) δ1) (hn : n ≤ 2 ^ 24) : dRg1 k t C ρ δ = .ok (k (rngD 0 n)) δ1 := by
  unfold dRg1
  rw [bind_to h]
  unfold sRg
  simp only
  have : ((n : Int) - 0).toNat = n := by omega
  rw [if_pos (by omega), this]; rfl
theorem rg2_to {k : List D → D} {i j : Int} (h : ta C ρ δ = .ok (.int i) δ1) (h2 : tb C ρ δ1 = .ok (.int j) δ2) (hi : -1000 ≤ i ∧ i ≤ 1000) (hj : -1000 ≤ j ∧ j ≤ 1000) : dRg2 k ta tb C ρ δ = .ok (k (rngD i (j - i).toNat)) δ2 := by
  unfold dRg2
  rw [bind_to h, bind_to h2]
  unfold sRg
  simp only
  rw [if_pos (by omega)]; rfl
theorem zv_to (h : t C ρ δ = .ok d δ1) : zV t C ρ δ = .ok (.val d) δ1 := by unfold zV; rw [bind_to h]; rfl
theorem zo_to (h : t C ρ δ = .ok d δ1) : zO t C ρ δ = .ok (.own d) δ1 := by unfold zO; rw [bind_to h]; rfl
theorem set_to {i : Nat} (h : za C ρ δ = .ok s δ1) : dSet i za C ρ δ = .ok (.nx (ρ.set i s)) δ1 := by unfold dSet; rw [bind_to h]; rfl
theorem par2_to {i j : Nat} (h : za C ρ δ = .ok s δ1) (h2 : zb C ρ δ1 = .ok s1 δ2) (hc : i < ρ.length ∧ j < ρ.length ∧ i ≠ j) : dPar2 i j za zb C ρ δ = .ok (.nx ((ρ.set i s).set j s1)) δ2 := by
  unfold dPar2; rw [bind_to h, bind_to h2, if_pos hc]; rfl
theorem asg_to {g : Tg} (h : t C ρ δ = .ok d δ1) (h2 : bindT g d ρ = some ρ') : dAsg g t C ρ δ = .ok (.nx ρ') δ1 := by unfold dAsg; rw [bind_to h, h2]; rfl
theorem mv_to (h : t C ρ δ = .ok d δ1) : mV t C ρ δ = .ok (d, ρ) δ1 := by unfold mV; rw [bind_to h]; rfl
theorem setm_to {i : Nat} {m : DM} (h : m C ρ δ = .ok (d, ρ') δ1) : dSetM i m C ρ δ = .ok (.nx (ρ'.set i (.val d))) δ1 := by unfold dSetM; rw [bind_to h]; rfl
theorem pop_to {i : Nat} (h : popL ρ i = some (d, ρ')) : dPop i C ρ δ = .ok (d, ρ') δ := by unfold dPop; rw [h]; rfl
theorem popAt_to {i : Nat} (ho : (ownL ρ i).isSome = true) (h : t C ρ δ = .ok x δ1) (h2 : popAtL ρ i x = some (d, ρ')) : dPopAt i t C ρ δ = .ok (d, ρ') δ1 := by
  obtain ⟨l, hl⟩ := Option.isSome_iff_exists.mp ho
  unfold dPopAt; rw [hl]
  show (t C ρ >>= _) δ = _
  rw [bind_to h, h2]; rfl
theorem app_to {i : Nat} {m : DM} {ρ2 : Sls} (ho : (ownL ρ i).isSome = true) (h : m C ρ δ = .ok (d, ρ') δ1) (h2 : appL ρ' i d = some ρ2) : dApp i m C ρ δ = .ok (.nx ρ2) δ1 := by
  obtain ⟨l, hl⟩ := Option.isSome_iff_exists.mp ho
  unfold dApp; rw [hl]
  show (m C ρ >>= _) δ = _
  rw [bind_to h]
  show optS (appL ρ' i d) δ1 = _
  rw [h2]; rfl
theorem setItem_to {i : Nat} {c : D} (h : za C ρ δ = .ok (.val d) δ1) (ho : ρ[i]? = some (.own c)) (h2 : t C ρ δ1 = .ok x δ2) (h3 : setL ρ i x d = some ρ') : dSetItem i t za C ρ δ = .ok (.nx ρ') δ2 := by
  unfold dSetItem
  rw [bind_to h]
  simp only [ho]
  rw [bind_to h2, h3]; rfl
theorem tidx_to (h : ta C ρ δ = .ok (.tup ds) δ1) (h2 : tb C ρ δ1 = .ok y δ2) (h3 : sTIdx ds y = some e) : dTIdx ta tb C ρ δ = .ok e δ2 := by
  unfold dTIdx
  rw [bind_to h]
  show (tb C ρ >>= _) δ1 = _
  rw [bind_to h2, h3]; rfl
theorem esc_to {is : List Nat} (h : sa C (escR ρ is) δ = .ok fl δ1) : dEsc is sa C ρ δ = .ok fl δ1 := h
theorem disp1_to {ks : List (D × D)} {prs : List (DE × DE)} (h : dPairs prs C ρ δ = .ok ks δ1) (h2 : mkDct ks = some d) : dDisp prs C ρ δ = .ok d δ1 := by unfold dDisp; rw [bind_to h, h2]; rfl
theorem pairs1_to (h : ta C ρ δ = .ok x δ1) (h2 : tb C ρ δ1 = .ok y δ2) : dPairs [(ta, tb)] C ρ δ = .ok [(x, y)] δ2 := by
  unfold dPairs
  rw [bind_to h, bind_to h2]; rfl
end
/-! ### numbers, namings, surfaces as data -/
abbrev eI (i : Nat) : D := .int (i : Int)
abbrev Nm := List Nat
def eN (a : Nm) : D := .tup (a.map eI)
def eS (s : Nm × Nm) : D := .tup [eN s.1, eN s.2]
/-- == item by item -/
def deqs : List D → List D → Bool
  | [], [] => true
  | x :: xs, y :: ys => deq x y && deqs xs ys
  | _, _ => false
theorem deqs_eq : ∀ xs ys : List D, PyData.eqvAll (toPys xs) (toPys ys) = deqs xs ys
  | [], [] => rfl
  | x :: xs, y :: ys => by
    simp only [toPys, PyData.eqvAll, deqs, deq]
    rw [deqs_eq xs ys]
  | [], y :: ys => rfl
  | x :: xs, [] => rfl
theorem deq_tup (xs ys : List D) : deq (.tup xs) (.tup ys) = deqs xs ys := deqs_eq xs ys
theorem deq_lst (xs ys : List D) : deq (.lst xs) (.lst ys) = deqs xs ys := deqs_eq xs ys
theorem deqs_map {α : Type} [DecidableEq α] {f : α → D} (h : ∀ a b, deq (f a) (f b) = decide (a = b)) : ∀ xs ys : List α, deqs (xs.map f) (ys.map f) = decide (xs = ys)
  | [], [] => rfl
  | x :: xs, y :: ys => by
    simp only [List.map_cons, deqs, h, deqs_map h xs ys]
    by_cases e : x = y <;> by_cases e2 : xs = ys <;> simp [e, e2]
  | [], y :: ys => by simp [deqs]
  | x :: xs, [] => by simp [deqs]
theorem deq_ii (i j : Int) : deq (.int i) (.int j) = decide (i = j) := by
  unfold deq toPy PyData.eqv
  by_cases h : i = j <;> simp [h]
theorem deq_eI (i j : Nat) : deq (eI i) (eI j) = decide (i = j) := by
  rw [deq_ii]
  by_cases h : i = j
  · simp [h]
  · rw [decide_eq_false h, decide_eq_false (by omega)]
theorem deq_eN (a b : Nm) : deq (eN a) (eN b) = decide (a = b) := by
  rw [eN, eN, deq_tup, deqs_map deq_eI]
theorem deq_eS (s t : Nm × Nm) : deq (eS s) (eS t) = decide (s = t) := by
  obtain ⟨a, b⟩ := s
  obtain ⟨c, d⟩ := t
  rw [eS, eS, deq_tup]
  simp only [deqs, deq_eN]
  by_cases h : a = c <;> by_cases h2 : b = d <;> simp [h, h2]
theorem pls_map {α : Type} {f : α → D} {n : Nat} (h : ∀ a, pl n (f a) = true) (xs : List α) : pls n (xs.map f) = true := by
  rw [pls_all, List.all_eq_true]
  intro x hx
  obtain ⟨a, _, rfl⟩ := List.mem_map.mp hx
  exact h a
theorem pl_eI (n i : Nat) : pl n (eI i) = true := by cases n <;> rfl
theorem pl_int (n : Nat) (i : Int) : pl n (.int i) = true := by cases n <;> rfl
theorem pl_eN (n : Nat) (a : Nm) : pl (n + 1) (eN a) = true := by
  unfold eN pl
  exact pls_map (pl_eI n) a
theorem pl_eS (n : Nat) (s : Nm × Nm) : pl (n + 2) (eS s) = true := by
  unfold eS pl
  simp only [pls, pl_eN, Bool.and_self]
theorem pl_eNs (n : Nat) (xs : List Nm) : pl (n + 2) (.lst (xs.map eN)) = true := by
  unfold pl
  exact pls_map (pl_eN n) xs
theorem pl_eNt (n : Nat) (xs : List Nm) : pl (n + 2) (.tup (xs.map eN)) = true := by
  unfold pl
  exact pls_map (pl_eN n) xs
theorem atI_nat {α : Type} {xs : List α} {i : Nat} (h : i < xs.length) : atI xs (i : Int) = some xs[i] := by
  unfold atI ixN
  rw [if_pos (Int.natCast_nonneg i), if_pos (by omega)]
  simp [h]
/-- the i-th square of a naming -/
def ap (a : Nm) (i : Nat) : Nat := a.getD i 0
theorem ap_lt {a : Nm} {i : Nat} (h : i < a.length) : ap a i = a[i] := by
  unfold ap
  rw [List.getD_eq_getElem?_getD, List.getElem?_eq_getElem h]; rfl
theorem ix_eN {a : Nm} {i : Nat} (h : i < a.length) : ixSem (eN a) (eI i) = some (eI (ap a i)) := by
  unfold eN ixSem
  simp only
  rw [atI_nat (by rw [List.length_map]; exact h), List.getElem_map, ap_lt h]
theorem it_eN (a : Nm) : itSem (eN a) = some (a.map eI) := rfl
theorem len_eN (a : Nm) : sLen (eN a) = some (eI a.length) := by unfold eN sLen; simp only; rw [List.length_map]
theorem rng_eI (n : Nat) : rngD 0 n = (List.range n).map eI := by
  unfold rngD
  apply List.map_congr_left
  intro i _
  show D.int _ = D.int _
  rw [Int.zero_add]
end SG


set_option Elab.async false
set_option linter.all false
set_option maxRecDepth 100000
set_option maxHeartbeats 1000000
namespace SG
open PySem PySem.Spec L2
open PyProof.Rows hiding St
/-! ### namings -/
theorem inj_surj : ∀ (n : Nat) (f : Nat → Nat), (∀ i, i < n → f i < n) → (∀ i j, i < n → j < n → f i = f j → i = j) → ∀ j, j < n → ∃ i, i < n ∧ f i = j
  | 0, _, _, _, j, h => absurd h (Nat.not_lt_zero j)
  | n + 1, f, h1, h2, j, hj => by
    have g1 : ∀ i, i < n → (if f i = n then f n else f i) < n := fun i hi => by
      have a := h1 i (by omega)
      have b := h1 n (by omega)
      split
      · rename_i e
        have : f n ≠ n := fun z => by have := h2 i n (by omega) (by omega) (e.trans z.symm); omega
        omega
      · omega
    have g2 : ∀ i k, i < n → k < n → (if f i = n then f n else f i) = (if f k = n then f n else f k) → i = k := fun i k hi hk e => by
      split at e <;> split at e
      · rename_i a b; exact h2 i k (by omega) (by omega) (a.trans b.symm)
      · have := h2 n k (by omega) (by omega) e; omega
      · have := h2 i n (by omega) (by omega) e; omega
      · exact h2 i k (by omega) (by omega) e
    have ih := inj_surj n (fun i => if f i = n then f n else f i) g1 g2
    by_cases e1 : j = f n
    · exact ⟨n, by omega, e1.symm⟩
    · by_cases e2 : j = n
      · subst e2
        have b := h1 j (by omega)
        obtain ⟨i, hi, hf⟩ := ih (f j) (by omega)
        split at hf
        · rename_i z; exact ⟨i, by omega, z⟩
        · have := h2 i j (by omega) (by omega) hf; omega
      · obtain ⟨i, hi, hf⟩ := ih j (by omega)
        split at hf
        · exact absurd hf.symm e1
        · exact ⟨i, by omega, hf⟩
structure IsN (n : Nat) (a : Nm) : Prop where
  len : a.length = n
  lt : ∀ i, i < n → ap a i < n
  inj : ∀ i j, i < n → j < n → ap a i = ap a j → i = j
theorem nm_ext {a b : Nm} (hl : a.length = b.length) (h : ∀ i, i < a.length → ap a i = ap b i) : a = b := by
  apply List.ext_getElem hl
  intro i h1 h2
  have := h i h1
  rw [ap_lt h1, ap_lt h2] at this
  exact this
/-- a naming by its law -/
def mkN (n : Nat) (f : Nat → Nat) : Nm := (List.range n).map f
theorem mkN_len (n : Nat) (f : Nat → Nat) : (mkN n f).length = n := by unfold mkN; rw [List.length_map, List.length_range]
theorem ap_mkN {n i : Nat} (f : Nat → Nat) (h : i < n) : ap (mkN n f) i = f i := by
  rw [ap_lt (by rw [mkN_len]; exact h)]
  unfold mkN
  rw [List.getElem_map, List.getElem_range]
theorem IsN.surj {n : Nat} {a : Nm} (h : IsN n a) {j : Nat} (hj : j < n) : ∃ i, i < n ∧ ap a i = j := inj_surj n (ap a) h.lt h.inj j hj
theorem IsN.mem {n : Nat} {a : Nm} (h : IsN n a) {x : Nat} : x ∈ a ↔ x < n := by
  constructor
  · intro hx
    obtain ⟨i, hi, rfl⟩ := List.mem_iff_getElem.mp hx
    rw [← ap_lt hi]
    exact h.lt i (by rw [← h.len]; exact hi)
  · intro hx
    obtain ⟨i, hi, rfl⟩ := h.surj hx
    rw [ap_lt (by rw [h.len]; exact hi)]
    exact List.getElem_mem _
theorem IsN.nodup {n : Nat} {a : Nm} (h : IsN n a) : a.Nodup := by
  rw [List.nodup_iff_pairwise_ne, List.pairwise_iff_getElem]
  intro i j hi hj hij e
  rw [← ap_lt hi, ← ap_lt hj] at e
  have := h.inj i j (by rw [← h.len]; exact hi) (by rw [← h.len]; exact hj) e
  omega
/-- one naming, then another one -/
def thenN (a b : Nm) : Nm := a.map (ap b)
theorem then_len (a b : Nm) : (thenN a b).length = a.length := List.length_map ..
theorem ap_then {a b : Nm} {i : Nat} (h : i < a.length) : ap (thenN a b) i = ap b (ap a i) := by
  rw [ap_lt (by rw [then_len]; exact h), ap_lt h]
  unfold thenN
  rw [List.getElem_map]
theorem IsN.then {n : Nat} {a b : Nm} (h : IsN n a) (k : IsN n b) : IsN n (thenN a b) where
  len := by rw [then_len]; exact h.len
  lt := fun i hi => by rw [ap_then (by rw [h.len]; exact hi)]; exact k.lt _ (h.lt i hi)
  inj := fun i j hi hj e => by
    rw [ap_then (by rw [h.len]; exact hi), ap_then (by rw [h.len]; exact hj)] at e
    exact h.inj i j hi hj (k.inj _ _ (h.lt i hi) (h.lt j hj) e)
/-- the naming back -/
def backN (a : Nm) : Nm := mkN a.length fun i => a.idxOf i
theorem back_len (a : Nm) : (backN a).length = a.length := mkN_len _ _
theorem IsN.ap_back {n : Nat} {a : Nm} (h : IsN n a) {j : Nat} (hj : j < n) : ap (backN a) j < n ∧ ap a (ap (backN a) j) = j := by
  have hm := h.mem.mpr hj
  have hi := List.idxOf_lt_length_iff.mpr hm
  unfold backN
  rw [ap_mkN _ (by rw [h.len]; exact hj)]
  exact ⟨by rw [← h.len]; exact hi, by rw [ap_lt hi]; exact List.getElem_idxOf hi⟩
theorem IsN.back_ap {n : Nat} {a : Nm} (h : IsN n a) {i : Nat} (hi : i < n) : ap (backN a) (ap a i) = i :=
  h.inj _ _ (h.ap_back (h.lt i hi)).1 hi (h.ap_back (h.lt i hi)).2
theorem IsN.back {n : Nat} {a : Nm} (h : IsN n a) : IsN n (backN a) where
  len := by rw [back_len]; exact h.len
  lt := fun i hi => (h.ap_back hi).1
  inj := fun i j hi hj e => by rw [← (h.ap_back hi).2, ← (h.ap_back hj).2, e]
theorem IsN.back_back {n : Nat} {a : Nm} (h : IsN n a) : backN (backN a) = a := nm_ext (by rw [back_len, back_len]) fun i hi => by
  rw [back_len, back_len, h.len] at hi
  have := h.back.back_ap (h.lt i hi)
  rw [h.back_ap hi] at this
  exact this
def idN (n : Nat) : Nm := List.range n
theorem ap_id {n i : Nat} (h : i < n) : ap (idN n) i = i := by
  rw [ap_lt (by unfold idN; rw [List.length_range]; exact h)]
  unfold idN
  rw [List.getElem_range]
theorem id_isN (n : Nat) : IsN n (idN n) := ⟨List.length_range, fun i h => by rw [ap_id h]; exact h, fun i j hi hj e => by rw [ap_id hi, ap_id hj] at e; exact e⟩
theorem mkN_isN {n : Nat} {f : Nat → Nat} (h1 : ∀ i, i < n → f i < n) (h2 : ∀ i j, i < n → j < n → f i = f j → i = j) : IsN n (mkN n f) :=
  ⟨mkN_len _ _, fun i h => by rw [ap_mkN _ h]; exact h1 i h, fun i j hi hj e => by rw [ap_mkN _ hi, ap_mkN _ hj] at e; exact h2 i j hi hj e⟩
/-! ### sorted namings -/
theorem dle_eI (i j : Nat) : dle (eI i) (eI j) = decide (i ≤ j) := by
  unfold dle PySem.W.dataLe PySem.W.sortLe
  simp only [cond_false, toPy, PySem.W.keyToks]
  have e : PyProof.Rows.lexLt PyProof.Rows.itemOrd [Sum.inl (j : Int)] [Sum.inl (i : Int)] = decide (j < i) := by
    unfold PyProof.Rows.lexLt
    show (decide ((j : Int) < i) || !decide ((i : Int) < j) && PyProof.Rows.lexLt PyProof.Rows.itemOrd [] []) = _
    simp only [PyProof.Rows.lexLt, Bool.and_false, Bool.or_false]
    by_cases h : j < i
    · rw [decide_eq_true h, decide_eq_true (by omega)]
    · rw [decide_eq_false h, decide_eq_false (by omega)]
  rw [e]
  by_cases h : i ≤ j
  · rw [decide_eq_true h, decide_eq_false (by omega)]; rfl
  · rw [decide_eq_false h, decide_eq_true (by omega)]; rfl
theorem sort_eI (a : Nm) : (a.map eI).mergeSort dle = (a.mergeSort fun i j => decide (i ≤ j)).map eI :=
  (List.map_mergeSort (fun i _ j _ => (dle_eI i j).symm)).symm
theorem IsN.sorted {n : Nat} {a : Nm} (h : IsN n a) : (a.mergeSort fun i j => decide (i ≤ j)) = List.range n := by
  refine List.Perm.eq_of_pairwise (le := fun i j => i ≤ j) (fun i j _ _ h1 h2 => Nat.le_antisymm h1 h2) ?_ ?_ ?_
  · exact (List.pairwise_mergeSort (fun a b c h1 h2 => by simp only [decide_eq_true_eq] at *; omega) (fun a b => by simp only [Bool.or_eq_true, decide_eq_true_eq]; omega) a).imp fun h => by simpa using h
  · exact List.pairwise_lt_range.imp Nat.le_of_lt
  · refine (List.mergeSort_perm a _).trans ((List.perm_ext_iff_of_nodup h.nodup List.nodup_range).mpr fun x => ?_)
    rw [h.mem, List.mem_range]
theorem alikes_eI (a : Nm) : alikes (a.map eI) = true := by
  unfold alikes
  rw [List.all_eq_true]
  intro x hx
  rw [List.all_eq_true]
  intro y hy
  obtain ⟨i, _, rfl⟩ := List.mem_map.mp hx
  obtain ⟨j, _, rfl⟩ := List.mem_map.mp hy
  rfl
theorem sortD_eI {a : Nm} (hl : a.length ≤ LINE) : sortD (a.map eI) = some ((a.mergeSort fun i j => decide (i ≤ j)).map eI) := by
  unfold sortD
  rw [if_pos, sort_eI]
  unfold sortOk
  have h1 : ((a.map eI).all noTup) = true := by
    rw [List.all_eq_true]
    intro x hx
    obtain ⟨i, _, rfl⟩ := List.mem_map.mp hx
    rfl
  rw [alikes_eI, h1, pls_map (pl_eI DP), List.length_map, decide_eq_true hl]
  simp
end SG


set_option Elab.async false
set_option linter.all false
set_option maxRecDepth 100000
set_option maxHeartbeats 1000000
namespace SG
open PySem PySem.Spec L2
open PyProof.Rows hiding St
/-! ### the walk by itself -/
section
variable {δ δ1 δ2 δ3 : Dr} {C : Ctx} {ρ ρ' : Sls} {t ta tb tc : DE} {u ua ub : DT} {r : DA} {d e x y z : D} {ds es : List D} {b k : Bool} {sa sb : DS} {fl : Fl} {q : Res Fl} {qd : Res D} {qb : Res Bool} {kx : Nat}
def contS (fl : Fl) (b : DS) (C : Ctx) (δ : Dr) : Res Fl := match fl with
  | .nx ρ' => b C ρ' δ
  | f => .ok f δ
theorem seq_fl (h : sa C ρ δ = .ok fl δ1) (h2 : contS fl sb C δ1 = q) : dSeq sa sb C ρ δ = q := by
  unfold dSeq; rw [bind_to h, ← h2]; cases fl <;> rfl
theorem cont_nx (h : sb C ρ' δ = q) : contS (.nx ρ') sb C δ = q := h
theorem cont_rt : contS (.rt d) sb C δ = .ok (.rt d) δ := rfl
def selT {α : Type} (b : Bool) (x y : Ctx → Sls → M α) : Ctx → Sls → M α := match b with
  | true => x
  | false => y
theorem sel_t {α : Type} {x y : Ctx → Sls → M α} {q : Res α} (hb : b = true) (h : x C ρ δ = q) : selT b x y C ρ δ = q := by subst hb; exact h
theorem sel_f {α : Type} {x y : Ctx → Sls → M α} {q : Res α} (hb : b = false) (h : y C ρ δ = q) : selT b x y C ρ δ = q := by subst hb; exact h
theorem ifs_b (h : u C ρ δ = .ok b δ1) (h2 : selT b sa sb C ρ δ1 = q) : dIfS u sa sb C ρ δ = q := by
  unfold dIfS; rw [bind_to h, ← h2]; cases b <;> rfl
theorem if_b (h : u C ρ δ = .ok b δ1) (h2 : selT b ta tb C ρ δ1 = qd) : dIf u ta tb C ρ δ = qd := by
  unfold dIf; rw [bind_to h, ← h2]; cases b <;> rfl
theorem and_b (h : ua C ρ δ = .ok b δ1) (h2 : selT b ub (fun _ _ => M.pure false) C ρ δ1 = qb) : dAnd ua ub C ρ δ = qb := by
  unfold dAnd; rw [bind_to h, ← h2]; cases b <;> rfl
theorem or_b (h : ua C ρ δ = .ok b δ1) (h2 : selT b (fun _ _ => M.pure true) ub C ρ δ1 = qb) : dOr ua ub C ρ δ = qb := by
  unfold dOr; rw [bind_to h, ← h2]; cases b <;> rfl
theorem andV_b (h : ta C ρ δ = .ok (.bl b) δ1) (h2 : selT b tb (fun _ _ => M.pure (.bl false)) C ρ δ1 = qd) : dAndV ta tb C ρ δ = qd := by
  unfold dAndV; rw [bind_to h, ← h2]; cases b <;> rfl
theorem orV_b (h : ta C ρ δ = .ok (.bl b) δ1) (h2 : selT b (fun _ _ => M.pure (.bl true)) tb C ρ δ1 = qd) : dOrV ta tb C ρ δ = qd := by
  unfold dOrV; rw [bind_to h, ← h2]; cases b <;> rfl
def dChR (op : CmpOp) (y : D) (c : DE) : DT := fun C ρ => do
  let z ← c C ρ
  M.opt (cmpSem op y z)
theorem chR_to {op : CmpOp} (h : tc C ρ δ = .ok z δ1) (hg : cmpSem op y z = some b) : dChR op y tc C ρ δ = .ok b δ1 := by unfold dChR; rw [bind_to h, hg]; rfl
theorem chain_b {op op' : CmpOp} (h : ta C ρ δ = .ok x δ1) (h2 : tb C ρ δ1 = .ok y δ2) (hg : cmpSem op x y = some b) (h3 : selT b (dChR op' y tc) (fun _ _ => M.pure false) C ρ δ2 = qb) : dChain op op' ta tb tc C ρ δ = qb := by
  unfold dChain; rw [bind_to h, bind_to h2, hg, ← h3]; cases b <;> rfl
theorem mpure_b : (fun _ _ => M.pure b : DT) C ρ δ = .ok b δ := rfl
theorem mpure_d : (fun _ _ => M.pure d : DE) C ρ δ = .ok d δ := rfl
/-- a call by the table -/
theorem callK {kk n : Nat} {f : Nat → Nat → List D → M D} (h : r ⟨f kk⟩ ρ δ = .ok ds δ1) (h2 : f kk n ds δ1 = qd) : dCall n r ⟨f kk⟩ ρ δ = qd := by unfold dCall; rw [bind_to h]; exact h2
theorem sl_to {lo hi : DO} {l h' : Option Int} (h : ta C ρ δ = .ok x δ1) (h1 : lo C ρ δ1 = .ok l δ2) (h2 : hi C ρ δ2 = .ok h' δ3) (hg : slSem x l h' = some e) : dSl ta lo hi C ρ δ = .ok e δ3 := by
  unfold dSl; rw [bind_to h, bind_to h1, bind_to h2, hg]; rfl
theorem none_to : dNone C ρ δ = .ok none δ := rfl
theorem some_to {i : Int} (h : t C ρ δ = .ok (.int i) δ1) : dSome t C ρ δ = .ok (some i) δ1 := by unfold dSome; rw [bind_to h]; rfl
theorem par3_to {i j l : Nat} {za zb zc : DZ} {s s1 s2 : Sl} (h : za C ρ δ = .ok s δ1) (h2 : zb C ρ δ1 = .ok s1 δ2) (h3 : zc C ρ δ2 = .ok s2 δ3) (hc : i < ρ.length ∧ j < ρ.length ∧ l < ρ.length ∧ i ≠ j ∧ i ≠ l ∧ j ≠ l) : dPar3 i j l za zb zc C ρ δ = .ok (.nx (((ρ.set i s).set j s1).set l s2)) δ3 := by
  unfold dPar3; rw [bind_to h, bind_to h2, bind_to h3, if_pos hc]; rfl
theorem cat_to (h : ta C ρ δ = .ok x δ1) (h2 : tb C ρ δ1 = .ok y δ2) (hg : catSem x y = some e) : dCat ta tb C ρ δ = .ok e δ2 := fun2_to h h2 hg
theorem perm_to {π : List Nat} (h : r C ρ δ = .ok ds δ1) (hp : permO π ds = es) : dPerm π r C ρ δ = .ok es δ1 := by
  unfold dPerm; rw [bind_to h, hp]; rfl
/-! ### comprehensions over mapped lists -/
theorem lc_mp {α : Type} {f y : α → D} {xs : List α} {it : DI} {g : Tg} {te : DE} {vs : List Nat} (hi : it C ρ δ = .ok (xs.map f) δ1) (ho : ownless ρ vs = true) (hl : xs.length ≤ LINE)
    (h : ∀ x ∈ xs, ∃ ρ1, bindT g (f x) (wipeR ρ vs) = some ρ1 ∧ ∀ δ, te C ρ1 δ = .ok (y x) δ) : dLc it g (fun _ _ => M.pure true) te vs C ρ δ = .ok (.lst (xs.map y)) δ1 := by
  have key : ∀ (xs : List α) δ, (∀ x ∈ xs, ∃ ρ1, bindT g (f x) (wipeR ρ vs) = some ρ1 ∧ ∀ δ, te C ρ1 δ = .ok (y x) δ) → lcM C (wipeR ρ vs) g (fun _ _ => M.pure true) te (xs.map f) δ = .ok (xs.map y) δ := by
    intro xs
    induction xs with
    | nil => exact fun _ _ => rfl
    | cons x xs ih =>
      intro δ h
      obtain ⟨ρ1, h1, h2⟩ := h x List.mem_cons_self
      rw [List.map_cons]
      unfold lcM
      rw [h1]
      have t1 : noX (M.pure true) δ = .ok true δ := rfl
      have t2 : noX (te C ρ1) δ = .ok (y x) δ := by unfold noX; rw [h2]
      show (noX (M.pure true) >>= _) δ = _
      rw [bind_to t1]
      show (noX (te C ρ1) >>= _) δ = _
      rw [bind_to t2, bind_to (ih δ fun e he => h e (List.mem_cons_of_mem _ he))]
      rfl
  unfold dLc
  rw [bind_to hi, ho, decide_eq_true (by rw [List.length_map]; exact hl)]
  show (noX _ >>= _) δ1 = _
  have t : noX (lcM C (wipeR ρ vs) g (fun _ _ => M.pure true) te (xs.map f)) δ1 = .ok (xs.map y) δ1 := by unfold noX; rw [key xs δ1 h]
  rw [bind_to t]
  rfl
/-- .. with a test -/
theorem lc_fl {α : Type} {f y : α → D} {p : α → Bool} {xs : List α} {it : DI} {g : Tg} {tt : DT} {te : DE} {vs : List Nat} (hi : it C ρ δ = .ok (xs.map f) δ1) (ho : ownless ρ vs = true) (hl : xs.length ≤ LINE)
    (h : ∀ x ∈ xs, ∃ ρ1, bindT g (f x) (wipeR ρ vs) = some ρ1 ∧ (∀ δ, tt C ρ1 δ = .ok (p x) δ) ∧ (p x = true → ∀ δ, te C ρ1 δ = .ok (y x) δ)) : dLc it g tt te vs C ρ δ = .ok (.lst ((xs.filter p).map y)) δ1 := by
  have key : ∀ (xs : List α) δ, (∀ x ∈ xs, ∃ ρ1, bindT g (f x) (wipeR ρ vs) = some ρ1 ∧ (∀ δ, tt C ρ1 δ = .ok (p x) δ) ∧ (p x = true → ∀ δ, te C ρ1 δ = .ok (y x) δ)) → lcM C (wipeR ρ vs) g tt te (xs.map f) δ = .ok ((xs.filter p).map y) δ := by
    intro xs
    induction xs with
    | nil => exact fun _ _ => rfl
    | cons x xs ih =>
      intro δ h
      obtain ⟨ρ1, h1, h2, h3⟩ := h x List.mem_cons_self
      have ih' := ih δ fun e he => h e (List.mem_cons_of_mem _ he)
      rw [List.map_cons]
      unfold lcM
      rw [h1]
      have t1 : noX (tt C ρ1) δ = .ok (p x) δ := by unfold noX; rw [h2]
      show (noX (tt C ρ1) >>= _) δ = _
      rw [bind_to t1]
      cases hp : p x with
      | false =>
        rw [List.filter_cons_of_neg (by simp [hp])]
        exact ih'
      | true =>
        have t2 : noX (te C ρ1) δ = .ok (y x) δ := by unfold noX; rw [h3 hp]
        rw [List.filter_cons_of_pos hp, List.map_cons]
        show (noX (te C ρ1) >>= _) δ = _
        rw [bind_to t2, bind_to ih']
        rfl
  unfold dLc
  rw [bind_to hi, ho, decide_eq_true (by rw [List.length_map]; exact hl)]
  show (noX _ >>= _) δ1 = _
  have t : noX (lcM C (wipeR ρ vs) g tt te (xs.map f)) δ1 = .ok ((xs.filter p).map y) δ1 := by unfold noX; rw [key xs δ1 h]
  rw [bind_to t]
  rfl
theorem rngN_to {n : Nat} (h : t C ρ δ = .ok (.int n) δ1) (hn : n < 2 ^ 62) : dRng1 t C ρ δ = .ok ((List.range n).map eI) δ1 := by rw [rng1_to h hn, rng_eI]
theorem rgN_to {n : Nat} {kk : List D → D} (h : t C ρ δ = .ok (.int n) δ1) (hn : n ≤ 2 ^ 24) : dRg1 kk t C ρ δ = .ok (kk ((List.range n).map eI)) δ1 := by rw [rg1_to h hn, rng_eI]
theorem caught_ok (h : t C ρ δ = .exc kx [] δ1) : dCaught t C ρ δ = .ok (.exn kx []) δ1 := by unfold dCaught; rw [h]
theorem ret_eq (h : t C ρ δ = .ok e δ1) (he : e = d) : dRet t C ρ δ = .ok (.rt d) δ1 := he ▸ ret_to h
theorem app_V {i : Nat} (ho : ρ[i]? = some (.own (.lst ds))) (hl : ds.length < 1000) (h : t C ρ δ = .ok d δ1) : dApp i (mV t) C ρ δ = .ok (.nx (ρ.set i (.own (.lst (ds ++ [d]))))) δ1 := by
  have e : ownL ρ i = some ds := by unfold ownL; rw [ho]
  refine app_to (by rw [e]; rfl) (mv_to h) ?_
  unfold appL
  rw [e]
  simp only [Option.bind_some]
  rw [if_pos (Nat.lt_of_lt_of_le hl (by decide))]
theorem nop_to : dNop C ρ δ = .ok (.nx ρ) δ := rfl
theorem tupW (h : r C ρ δ = .ok ds δ1) (hl : decide (ds.length ≤ 1000) = true) : dTup r C ρ δ = .ok (.tup ds) δ1 := tup_to h (Nat.le_trans (of_decide_eq_true hl) (by decide))
theorem lstW (h : r C ρ δ = .ok ds δ1) (hl : decide (ds.length ≤ 1000) = true) : dLst r C ρ δ = .ok (.lst ds) δ1 := lst_to h (Nat.le_trans (of_decide_eq_true hl) (by decide))
theorem par2_W {i j : Nat} {za zb : DZ} {s s1 : Sl} (hc : (decide (i < ρ.length) && decide (j < ρ.length) && decide (i ≠ j)) = true) (h : za C ρ δ = .ok s δ1) (h2 : zb C ρ δ1 = .ok s1 δ2) : dPar2 i j za zb C ρ δ = .ok (.nx ((ρ.set i s).set j s1)) δ2 :=
  par2_to h h2 (by simp only [Bool.and_eq_true, decide_eq_true_eq] at hc; exact ⟨hc.1.1, hc.1.2, hc.2⟩)
theorem IsN.lenD {n : Nat} {a : Nm} (h : IsN n a) : sLen (eN a) = some (eI n) := by rw [len_eN, h.len]
theorem ne_ii (a b : Int) : cmpSem .NotEq (.int a) (.int b) = some (!decide (a = b)) := by
  unfold cmpSem
  simp only [pl_int, Bool.and_self, if_true, deq_ii]
theorem eq_ii (a b : Int) : cmpSem .Eq (.int a) (.int b) = some (decide (a = b)) := by
  unfold cmpSem
  simp only [pl_int, Bool.and_self, if_true, deq_ii]
theorem ne_eN (a b : Nm) : cmpSem .NotEq (eN a) (eN b) = some (!decide (a = b)) := by
  unfold cmpSem
  have h1 : pl DP (eN a) = true := pl_eN _ a
  have h2 : pl DP (eN b) = true := pl_eN _ b
  simp only [h1, h2, Bool.and_self, if_true, deq_eN]
theorem eq_eN (a b : Nm) : cmpSem .Eq (eN a) (eN b) = some (decide (a = b)) := by
  unfold cmpSem
  have h1 : pl DP (eN a) = true := pl_eN _ a
  have h2 : pl DP (eN b) = true := pl_eN _ b
  simp only [h1, h2, Bool.and_self, if_true, deq_eN]
theorem ne_eS (a b : Nm × Nm) : cmpSem .NotEq (eS a) (eS b) = some (!decide (a = b)) := by
  unfold cmpSem
  have h1 : pl DP (eS a) = true := pl_eS _ a
  have h2 : pl DP (eS b) = true := pl_eS _ b
  simp only [h1, h2, Bool.and_self, if_true, deq_eS]
theorem eq_eS (a b : Nm × Nm) : cmpSem .Eq (eS a) (eS b) = some (decide (a = b)) := by
  unfold cmpSem
  have h1 : pl DP (eS a) = true := pl_eS _ a
  have h2 : pl DP (eS b) = true := pl_eS _ b
  simp only [h1, h2, Bool.and_self, if_true, deq_eS]
theorem ix0 (s : Nm × Nm) : ixSem (eS s) (.int 0) = some (eN s.1) := rfl
theorem ix1 (s : Nm × Nm) : ixSem (eS s) (.int 1) = some (eN s.2) := rfl
theorem it_eS (s : Nm × Nm) : itSem (eS s) = some ([s.1, s.2].map eN) := rfl
end
end SG


set_option Elab.async false
set_option linter.all false
set_option maxRecDepth 100000
set_option maxHeartbeats 1000000
namespace SG
open PySem PySem.Spec L2
open PyProof.Rows hiding St
/-! ### dicts keyed by numbers -/
def kd (m : List (Nat × D)) : List (D × D) := m.map fun p => (eI p.1, p.2)
theorem kd_len (m : List (Nat × D)) : (kd m).length = m.length := List.length_map ..
theorem look_kd : ∀ (m : List (Nat × D)) (x : Nat), dlook (kd m) (eI x) = m.lookup x
  | [], x => rfl
  | (k, d) :: m, x => by
    have ih := look_kd m x
    unfold dlook at ih ⊢
    simp only [kd, List.map_cons, List.find?_cons, List.lookup_cons]
    rw [deq_eI]
    by_cases h : k = x
    · subst h; simp
    · rw [decide_eq_false h]
      have : (x == k) = false := beq_eq_false_iff_ne.mpr (Ne.symm h)
      rw [this]
      exact ih
theorem put_new {m : List (Nat × D)} {x : Nat} {d : D} (h : m.lookup x = none) : dput (kd m) (eI x) d = kd (m ++ [(x, d)]) := by
  unfold dput
  rw [if_neg]
  · simp [kd]
  · intro z
    rw [List.any_eq_true] at z
    obtain ⟨p, hp, hd⟩ := z
    have := look_kd m x
    rw [h] at this
    unfold dlook at this
    rw [Option.map_eq_none_iff, List.find?_eq_none] at this
    exact this p hp hd
theorem in_kd (m : List (Nat × D)) (x : Nat) : inSem (eI x) (.dct (kd m)) = some (m.lookup x).isSome := by
  unfold inSem
  simp only [look_kd]
  rfl
theorem set_kd {m : List (Nat × D)} {x : Nat} {d : D} (h : m.lookup x = none) (hl : m.length < LINE) : setSem (.dct (kd m)) (eI x) d = some (.dct (kd (m ++ [(x, d)]))) := by
  unfold setSem
  simp only
  rw [if_pos ⟨rfl, by rw [kd_len]; exact hl⟩, put_new h]
theorem lookup_map {L : List Nat} {f : Nat → D} {x : Nat} : (L.map fun i => (i, f i)).lookup x = if x ∈ L then some (f x) else none := by
  induction L with
  | nil => rfl
  | cons a L ih =>
    simp only [List.map_cons, List.lookup_cons, List.mem_cons]
    by_cases h : x = a
    · subst h; simp
    · rw [beq_eq_false_iff_ne.mpr h]
      simp only [h, false_or]
      exact ih
/-! ### small defs -/
section
variable {δ : Dr} {k : Nat}
theorem sp_is_number (i : Int) : callN (k + 1) i_is_number [.int i] δ = .ok (.bl true) δ := by
  rw [cn_is_number]
  exact run_rt rfl (by decide) (ret_to (andV_t (fun1_to (peek_val rfl) (by rfl)) (notV_to (b := false) (fun1_to (peek_val rfl) (by rfl)))))
theorem bls_true {α : Type} (xs : List α) : bls (xs.map fun _ => D.bl true) = some (xs.map fun _ => true) := by
  induction xs with
  | nil => rfl
  | cons a xs ih => simp only [List.map_cons, bls, ih]; rfl
theorem all_true {α : Type} (xs : List α) : sAll (.lst (xs.map fun _ => D.bl true)) = some (.bl true) := by
  unfold sAll
  simp only [bls_true]
  show some (D.bl _) = _
  congr 2
  rw [List.all_map, List.all_eq_true]
  intro _ _; rfl
/-- all of a comprehension's answers are yes -/
theorem all_yes {ds : List D} {y : D → D} (h : ∀ d ∈ ds, y d = .bl true) : sAll (.lst (ds.map y)) = some (.bl true) := by
  rw [List.map_congr_left h]
  exact all_true ds
theorem ne_len (a b : Nat) : cmpSem .NotEq (eI a) (eI b) = some (!decide (a = b)) := by
  unfold cmpSem
  simp only [pl_eI, Bool.and_self, if_true, deq_eI]
theorem eq_len (a b : Nat) : cmpSem .Eq (eI a) (eI b) = some (decide (a = b)) := by
  unfold cmpSem
  simp only [pl_eI, Bool.and_self, if_true, deq_eI]
theorem small_line {n : Nat} (h : n ≤ 1000) : n ≤ LINE := Nat.le_trans h (by decide)
theorem sp_is_naming {n : Nat} {a : Nm} (h : IsN n a) (hn : n ≤ 1000) : callN (k + 2) i_is_naming [eI n, eN a] δ = .ok (.bl true) δ := by
  rw [cn_is_naming]
  have hl : a.length ≤ LINE := small_line (by rw [h.len]; exact hn)
  refine run_rt rfl (by decide) (seq_to (ifs_nop (δ1 := δ) ?_) ?_)
  · refine or_f (not_to (b := true) (tst_to (fun1_to (peek_val rfl) (by rfl)))) (or_f (cmp_to (fun1_to (peek_val rfl) (len_eN a)) (peek_val rfl) (b := false) ?_) (not_to (b := true) (tst_to (fun1_to (lc_all (it_to (peek_val rfl) (it_eN a)) rfl (by rw [List.length_map]; exact hl) (y := fun _ => .bl true) ?_) ?_))))
    · rw [ne_len, h.len]; simp
    · intro d hd
      obtain ⟨i, _, rfl⟩ := List.mem_map.mp hd
      exact ⟨_, rfl, fun δ => call_to (cons_to (var_val rfl) nil_to) (sp_is_number (k := k) (i : Int))⟩
    · exact all_yes fun _ _ => rfl
  · refine ret_to (bl_to (cmp_to (fun1_to (peek_val rfl) (e := .lst ((List.range n).map eI)) ?_) (rg1_to (n := n) (var_val rfl) (by omega)) ?_))
    · show (sortD (a.map eI)).map D.lst = _
      rw [sortD_eI hl, h.sorted]; rfl
    · unfold cmpSem
      simp only [rng_eI, deq_lst, deqs_map deq_eI]
      rw [if_pos]
      · simp
      · have : pl DP (.lst ((List.range n).map eI)) = true := by unfold pl; exact pls_map (pl_eI _) _
        rw [this]; rfl
theorem sp_then_by {a b : Nm} (hl : a.length ≤ LINE) (h : ∀ i ∈ a, i < b.length) : callN (k + 1) i_then_by [eN a, eN b] δ = .ok (eN (thenN a b)) δ := by
  rw [cn_then_by]
  refine run_rt rfl (by decide) (ret_to (fun1_to (lc_all (it_to (peek_val rfl) (it_eN a)) rfl (by rw [List.length_map]; exact hl) (y := fun d => match d with | .int i => eI (ap b i.toNat) | _ => .non) ?_) ?_))
  · intro d hd
    obtain ⟨i, hi, rfl⟩ := List.mem_map.mp hd
    exact ⟨_, rfl, fun δ => ix_to (peek_val rfl) (peek_val rfl) (by rw [ix_eN (h i hi)]; rfl)⟩
  · unfold sTuple eN thenN
    simp only [List.map_map]
    rfl
end
end SG


set_option Elab.async false
set_option linter.all false
set_option maxRecDepth 100000
set_option maxHeartbeats 1000000
namespace SG
open PySem PySem.Spec L2
open PyProof.Rows hiding St
/-! ### the naming back, all squares reached, surfaces -/
theorem ap_set {F : Nm} {i j x : Nat} (h : i < F.length) : ap (F.set i x) j = if i = j then x else ap F j := by
  unfold ap
  rw [List.getD_eq_getElem?_getD, List.getD_eq_getElem?_getD, List.getElem?_set]
  by_cases e : i = j
  · subst e; simp [h]
  · simp [e]
theorem set_eI {F : Nm} {i x : Nat} (h : i < F.length) : setSem (.lst (F.map eI)) (eI i) (eI x) = some (.lst ((F.set i x).map eI)) := by
  unfold setSem
  have e : ixN (F.map eI).length (i : Int) = some i := by
    unfold ixN
    rw [if_pos (Int.natCast_nonneg i), List.length_map, if_pos (by omega), Int.toNat_natCast]
  simp only [e, Option.map_some, List.map_set]
theorem setL_to {ρ : Sls} {i : Nat} {c c' k d : D} (h : ρ[i]? = some (.own c)) (h2 : setSem c k d = some c') : setL ρ i k d = some (ρ.set i (.own c')) := by
  unfold setL
  rw [h]
  simp only [h2]; rfl
theorem appL_to {ρ : Sls} {i : Nat} {ds : List D} {d : D} (h : ρ[i]? = some (.own (.lst ds))) (hl : ds.length < LINE) : appL ρ i d = some (ρ.set i (.own (.lst (ds ++ [d])))) := by
  unfold appL ownL
  rw [h]
  simp only [Option.bind_some, if_pos hl]
theorem popL_to {ρ : Sls} {i : Nat} {ds : List D} {d : D} (h : ρ[i]? = some (.own (.lst (ds ++ [d])))) : popL ρ i = some (d, ρ.set i (.own (.lst ds))) := by
  unfold popL ownL
  rw [h]
  simp
theorem enum_eI (a : Nm) {i : Nat} (h : i < a.length) : (enumD (a.map eI))[i]'(by rw [enum_len, List.length_map]; exact h) = .pr (eI i) (eI (ap a i)) := by
  have := List.getElem?_eq_getElem (l := enumD (a.map eI)) (i := i) (by rw [enum_len, List.length_map]; exact h)
  obtain ⟨x, h1, h2⟩ := enum_at this
  rw [h2]
  rw [List.getElem?_map, List.getElem?_eq_getElem h] at h1
  cases h1
  rw [ap_lt h]
section
variable {δ : Dr} {k : Nat}
theorem sp_back_by {n : Nat} {a : Nm} (h : IsN n a) (hn : n ≤ 1000) : callN (k + 1) i_back_by [eN a] δ = .ok (eN (backN a)) δ := by
  rw [cn_back_by]
  have hl : a.length ≤ LINE := small_line (by rw [h.len]; exact hn)
  refine run_rt rfl (by decide) (seq_to (set_to (zo_to (lc_all (it_to (peek_val rfl) (it_eN a)) rfl (by rw [List.length_map]; exact hl) (y := fun _ => eI 0) fun d hd => ?_))) ?_)
  · obtain ⟨i, _, rfl⟩ := List.mem_map.mp hd
    exact ⟨_, rfl, fun δ => c_to⟩
  let I : Nat → Sls → Dr → Prop := fun i ρ δ' => δ' = δ ∧ ∃ (F : Nm) (s t : Sl), ρ = [.val (eN a), .own (.lst (F.map eI)), s, t] ∧ F.length = n ∧ ∀ j, j < i → ap F (ap a j) = j
  have h0 : I 0 [.val (eN a), .own (.lst ((a.map eI).map fun _ => eI 0)), .no, .no] δ :=
    ⟨rfl, a.map fun _ => 0, .no, .no, by rw [List.map_map, List.map_map]; rfl, by rw [List.length_map]; exact h.len, fun j hj => absurd hj (Nat.not_lt_zero j)⟩
  obtain ⟨ρ', δ', e1, e2, F, s, t, e3, e4, e5⟩ := for_inv (C := ⟨callN k⟩) (g := .t [.n 2, .n 3]) (b := dSetItem 1 (dVar 3) (zV (dVar 2))) (ds := enumD (a.map eI)) I (fun i hi ρ δ2 hI => by
    obtain ⟨rfl, F, s, t, rfl, f1, f2⟩ := hI
    rw [enum_len, List.length_map, h.len] at hi
    have hF : ap a i < F.length := by rw [f1]; exact h.lt i hi
    refine ⟨_, _, δ2, by rw [enum_eI a (by rw [h.len]; exact hi)]; rfl, .inl (setItem_to (zv_to (var_val rfl)) rfl (var_val rfl) (setL_to rfl (set_eI hF))), rfl, F.set (ap a i) i, .val (eI i), .val (eI (ap a i)), rfl, by rw [List.length_set]; exact f1, fun j hj => ?_⟩
    rw [ap_set hF]
    by_cases e : ap a i = ap a j
    · rw [if_pos e]
      by_cases hij : j = i
      · exact hij.symm
      · exact absurd (h.inj i j hi (by omega) e).symm hij
    · rw [if_neg e]
      have hij : j ≠ i := fun z => e (by rw [z])
      exact f2 j (by omega)) h0
  subst e2
  rw [enum_len, List.length_map, h.len] at e5
  have hF : F = backN a := nm_ext (by rw [back_len, h.len]; exact e4) fun i hi => by
    rw [e4] at hi
    have := e5 (ap (backN a) i) (h.ap_back hi).1
    rw [(h.ap_back hi).2] at this
    exact this
  subst hF
  subst e3
  refine seq_to ((dFor_to (enum_to (var_val rfl) rfl)).trans e1) (ret_to (fun1_to (peek_own rfl) rfl))
end
/-! ### all squares reached -/
/-- closed under a surface's right and up -/
def Clo (n : Nat) (s : Nm × Nm) (S : Nat → Prop) : Prop := ∀ i, i < n → S i → S (ap s.1 i) ∧ S (ap s.2 i)
structure Surf (n : Nat) (s : Nm × Nm) : Prop where
  r : IsN n s.1
  u : IsN n s.2
  pos : 1 ≤ n
  most : n ≤ 6
  conn : ∀ S : Nat → Prop, S 0 → Clo n s S → ∀ i, i < n → S i
/-- the squares found: each once, all that is closed, nothing but what must be -/
structure Fnd (n : Nat) (s : Nm × Nm) (L : List Nat) : Prop where
  nd : L.Nodup
  lt : ∀ x ∈ L, x < n
  zero : 0 ∈ L
  clo : ∀ x ∈ L, ap s.1 x ∈ L ∧ ap s.2 x ∈ L
  just : ∀ S : Nat → Prop, S 0 → Clo n s S → ∀ x ∈ L, S x
theorem nodup_len {n : Nat} {L : List Nat} (hd : L.Nodup) (hl : ∀ x ∈ L, x < n) : L.length ≤ n := by
  have := List.Nodup.length_le_of_subset (l₂ := List.range n) hd fun x hx => List.mem_range.mpr (hl x hx)
  rwa [List.length_range] at this
theorem Fnd.len_le {n : Nat} {s : Nm × Nm} {L : List Nat} (f : Fnd n s L) : L.length ≤ n := nodup_len f.nd f.lt
/-- as many as squares exactly if it hangs together -/
theorem Fnd.conn_iff {n : Nat} {s : Nm × Nm} {L : List Nat} (f : Fnd n s L) : L.length = n ↔ ∀ S : Nat → Prop, S 0 → Clo n s S → ∀ i, i < n → S i := by
  constructor
  · intro hl S h0 hc i hi
    refine f.just S h0 hc i ?_
    apply Classical.byContradiction
    intro hn
    have := nodup_len (n := n) (L := i :: L) (List.nodup_cons.mpr ⟨hn, f.nd⟩) fun x hx => (List.mem_cons.mp hx).elim (fun z => z ▸ hi) (f.lt x)
    rw [List.length_cons] at this
    omega
  · intro h
    have hs : ∀ i, i < n → i ∈ L := h (· ∈ L) f.zero fun i _ hi => f.clo i hi
    have := List.Nodup.length_le_of_subset (l₂ := L) (List.nodup_range (n := n)) fun x hx => hs x (List.mem_range.mp hx)
    rw [List.length_range] at this
    have := f.len_le
    omega
/-- the work on the way: seen L, to do Q -/
structure Wrk (n : Nat) (s : Nm × Nm) (L Q : List Nat) : Prop where
  nd : L.Nodup
  lt : ∀ x ∈ L, x < n
  zero : 0 ∈ L
  sub : ∀ x ∈ Q, x ∈ L
  clo : ∀ x ∈ L, x ∈ Q ∨ (ap s.1 x ∈ L ∧ ap s.2 x ∈ L)
  just : ∀ S : Nat → Prop, S 0 → Clo n s S → ∀ x ∈ L, S x
theorem Wrk.start {n : Nat} {s : Nm × Nm} (hn : 1 ≤ n) : Wrk n s [0] [0] where
  nd := by simp
  lt := fun x hx => by simp at hx; omega
  zero := by simp
  sub := fun x hx => hx
  clo := fun x hx => .inl hx
  just := fun S h0 _ x hx => by simp at hx; subst hx; exact h0
theorem Wrk.fin {n : Nat} {s : Nm × Nm} {L : List Nat} (w : Wrk n s L []) : Fnd n s L := ⟨w.nd, w.lt, w.zero, fun x hx => (w.clo x hx).elim (fun z => nomatch z) id, w.just⟩
/-- one more square, if it is new -/
def addL (L : List Nat) (x : Nat) : List Nat := if x ∈ L then L else L ++ [x]
def addQ (L Q : List Nat) (x : Nat) : List Nat := if x ∈ L then Q else Q ++ [x]
theorem mem_addL {L : List Nat} {x y : Nat} : y ∈ addL L x ↔ y ∈ L ∨ y = x := by
  unfold addL
  split
  · rename_i h
    exact ⟨.inl, fun z => z.elim id fun z => z ▸ h⟩
  · simp
theorem mem_addQ {L Q : List Nat} {x y : Nat} (h : y ∈ addQ L Q x) : y ∈ Q ∨ (y = x ∧ x ∉ L) := by
  unfold addQ at h
  split at h
  · exact .inl h
  · rename_i hx
    rcases List.mem_append.mp h with h | h
    · exact .inl h
    · simp at h; exact .inr ⟨h, hx⟩
theorem addQ_sub {L Q : List Nat} {x y : Nat} (h : y ∈ Q) : y ∈ addQ L Q x := by
  unfold addQ
  split
  · exact h
  · exact List.mem_append_left _ h
theorem add_nd {L : List Nat} {x : Nat} (h : L.Nodup) : (addL L x).Nodup := by
  unfold addL
  split
  · exact h
  · rename_i hx
    rw [List.nodup_append]
    exact ⟨h, by simp, fun a ha b hb => by simp at hb; subst hb; exact fun z => hx (z ▸ ha)⟩
/-- what a turn of the work leaves: h taken from the end of Q, its two neighbours added -/
theorem Wrk.turn {n : Nat} {s : Nm × Nm} {L Q : List Nat} {h : Nat} (hr : IsN n s.1) (hu : IsN n s.2) (w : Wrk n s L (Q ++ [h])) :
    Wrk n s (addL (addL L (ap s.1 h)) (ap s.2 h)) (addQ (addL L (ap s.1 h)) (addQ L Q (ap s.1 h)) (ap s.2 h)) := by
  have hh : h ∈ L := w.sub h (by simp)
  have hn := w.lt h hh
  refine ⟨add_nd (add_nd w.nd), fun x hx => ?_, mem_addL.mpr (.inl (mem_addL.mpr (.inl w.zero))), fun x hx => ?_, fun x hx => ?_, fun S h0 hc x hx => ?_⟩
  · rcases mem_addL.mp hx with hx | rfl
    · rcases mem_addL.mp hx with hx | rfl
      · exact w.lt x hx
      · exact hr.lt h hn
    · exact hu.lt h hn
  · rcases mem_addQ hx with hx | ⟨rfl, _⟩
    · rcases mem_addQ hx with hx | ⟨rfl, _⟩
      · exact mem_addL.mpr (.inl (mem_addL.mpr (.inl (w.sub x (List.mem_append_left _ hx)))))
      · exact mem_addL.mpr (.inl (mem_addL.mpr (.inr rfl)))
    · exact mem_addL.mpr (.inr rfl)
  · have up : ∀ y, y ∈ L → y ∈ addL (addL L (ap s.1 h)) (ap s.2 h) := fun y hy => mem_addL.mpr (.inl (mem_addL.mpr (.inl hy)))
    have old : x ∈ L → x ∈ addQ (addL L (ap s.1 h)) (addQ L Q (ap s.1 h)) (ap s.2 h) ∨ (ap s.1 x ∈ addL (addL L (ap s.1 h)) (ap s.2 h) ∧ ap s.2 x ∈ addL (addL L (ap s.1 h)) (ap s.2 h)) := fun hx => by
      rcases w.clo x hx with hq | ⟨h1, h2⟩
      · rcases List.mem_append.mp hq with hq | hq
        · exact .inl (addQ_sub (addQ_sub hq))
        · simp at hq
          subst hq
          exact .inr ⟨mem_addL.mpr (.inl (mem_addL.mpr (.inr rfl))), mem_addL.mpr (.inr rfl)⟩
      · exact .inr ⟨up _ h1, up _ h2⟩
    rcases mem_addL.mp hx with hx1 | rfl
    · rcases mem_addL.mp hx1 with hx2 | rfl
      · exact old hx2
      · by_cases hL : ap s.1 h ∈ L
        · exact old hL
        · refine .inl (addQ_sub ?_)
          unfold addQ
          rw [if_neg hL]
          simp
    · by_cases hL : ap s.2 h ∈ addL L (ap s.1 h)
      · rcases mem_addL.mp hL with hx2 | e
        · exact old hx2
        · by_cases hL2 : ap s.1 h ∈ L
          · exact old (e ▸ hL2)
          · refine .inl (addQ_sub ?_)
            unfold addQ
            rw [if_neg hL2, e]
            simp
      · refine .inl ?_
        unfold addQ
        rw [if_neg hL]
        simp
  · have hS := w.just S h0 hc h hh
    rcases mem_addL.mp hx with hx | rfl
    · rcases mem_addL.mp hx with hx | rfl
      · exact w.just S h0 hc x hx
      · exact (hc h hn hS).1
    · exact (hc h hn hS).2
theorem add_count (L Q : List Nat) (x : Nat) : (addL L x).length = L.length ∧ (addQ L Q x).length = Q.length ∨ (addL L x).length = L.length + 1 ∧ (addQ L Q x).length = Q.length + 1 := by
  unfold addL addQ
  split
  · exact .inl ⟨rfl, rfl⟩
  · exact .inr ⟨by simp, by simp⟩
end SG


set_option Elab.async false
set_option linter.all false
set_option maxRecDepth 100000
set_option maxHeartbeats 1000000
namespace SG
open PySem PySem.Spec L2
open PyProof.Rows hiding St
section
variable {δ : Dr} {k n : Nat} {C : Ctx}
def seenD (L : List Nat) : D := .dct (kd (L.map fun i => (i, .bl true)))
def lineD' (Q : List Nat) : D := .lst (Q.map eI)
theorem look_seen {L : List Nat} {x : Nat} : (L.map fun i => (i, D.bl true)).lookup x = if x ∈ L then some (.bl true) else none := lookup_map
theorem notin_seen (L : List Nat) (x : Nat) : cmpSem .NotIn (eI x) (seenD L) = some (decide (x ∉ L)) := by
  unfold cmpSem seenD
  simp only [in_kd, look_seen]
  by_cases h : x ∈ L <;> simp [h]
theorem ne_nil (Q : List Nat) : cmpSem .NotEq (lineD' Q) (.lst []) = some (!decide (Q = [])) := by
  unfold cmpSem lineD'
  have h : pl DP (.lst (Q.map eI)) = true := by unfold pl; exact pls_map (pl_eI _) Q
  have h2 : pl DP (.lst []) = true := rfl
  simp only [h, h2, Bool.and_self, if_true, deq_lst]
  cases Q <;> simp [deqs]
theorem add_step {a0 a1 a4 : Sl} {L Q : List Nat} {x : Nat} (hL : L.length ≤ 1000) (hQ : Q.length ≤ 1000) :
    dIfS (dCmp .NotIn (dPeek 5) (dPeek 2)) (dSeq (dSetItem 2 (dVar 5) (zV (dC (.bl true)))) (dApp 3 (mV (dVar 5)))) dNop C [a0, a1, .own (seenD L), .own (lineD' Q), a4, .val (eI x)] δ =
      .ok (.nx [a0, a1, .own (seenD (addL L x)), .own (lineD' (addQ L Q x)), a4, .val (eI x)]) δ := by
  have t : dCmp .NotIn (dPeek 5) (dPeek 2) C [a0, a1, .own (seenD L), .own (lineD' Q), a4, .val (eI x)] δ = .ok (decide (x ∉ L)) δ := cmp_to (peek_val rfl) (peek_own rfl) (notin_seen L x)
  unfold addL addQ
  by_cases h : x ∈ L
  · rw [if_pos h, if_pos h]
    rw [decide_eq_false (by simpa using h)] at t
    exact ifs_nop t
  · rw [if_neg h, if_neg h]
    rw [decide_eq_true h] at t
    have e1 : setSem (seenD L) (eI x) (.bl true) = some (seenD (L ++ [x])) := by
      unfold seenD
      rw [set_kd (by rw [look_seen, if_neg h]) (by rw [List.length_map]; exact Nat.lt_of_le_of_lt hL (by decide)), List.map_append]
      rfl
    have e2 : lineD' (Q ++ [x]) = .lst (Q.map eI ++ [eI x]) := by unfold lineD'; rw [List.map_append]; rfl
    rw [e2]
    exact ifs_t t (seq_to (setItem_to (zv_to c_to) rfl (var_val rfl) (setL_to rfl e1)) (app_to rfl (mv_to (var_val rfl)) (appL_to rfl (by rw [List.length_map]; exact Nat.lt_of_le_of_lt hQ (by decide)))))
def mu (n : Nat) (ρ : Sls) : Nat := match ρ[2]?, ρ[3]? with
  | some (Sl.own (D.dct ks)), some (Sl.own (D.lst qs)) => 2 * (n - ks.length) + qs.length
  | _, _ => 0
theorem two_line {a b : D} : [a, b].length ≤ LINE := show 2 ≤ LINE by decide
theorem for_two {g : Tg} {b : DS} {d1 d2 : D} {ρ ρ1 ρ2 ρ3 ρ4 : Sls} {δ1 δ2 : Dr} (h1 : bindT g d1 ρ = some ρ1) (h2 : b C ρ1 δ = .ok (.nx ρ2) δ1) (h3 : bindT g d2 ρ2 = some ρ3) (h4 : b C ρ3 δ1 = .ok (.nx ρ4) δ2) : forM' g b C [d1, d2] ρ δ = .ok (.nx ρ4) δ2 := by
  rw [for_cons h1 h2]
  show forM' g b C [d2] ρ2 δ1 = _
  rw [for_cons h3 h4]
  rfl
/-- the search from square 0 -/
theorem bfs {s : Nm × Nm} (hr : IsN n s.1) (hu : IsN n s.2) (hn : 1 ≤ n) (hm : n ≤ 400) {it : DI} (hit : ∀ h, h < n → ∀ L Q s5, it C [.val (eN s.1), .val (eN s.2), .own (seenD L), .own (lineD' Q), .val (eI h), s5] δ = .ok [eI (ap s.1 h), eI (ap s.2 h)] δ) :
    ∃ L s4 s5, Fnd n s L ∧ dWhile (dCmp .NotEq (dPeek 3) (dLst (dNil))) (dSeq (dSetM 4 (dPop 3)) (dFor it (.n 5) (dIfS (dCmp .NotIn (dPeek 5) (dPeek 2)) (dSeq (dSetItem 2 (dVar 5) (zV (dC (.bl true)))) (dApp 3 (mV (dVar 5)))) (dNop)))) C
      [.val (eN s.1), .val (eN s.2), .own (seenD [0]), .own (lineD' [0]), .no, .no] δ = .ok (.nx [.val (eN s.1), .val (eN s.2), .own (seenD L), .own (lineD' []), s4, s5]) δ := by
  let I : Sls → Dr → Prop := fun ρ δ' => δ' = δ ∧ ∃ L Q s4 s5, ρ = [.val (eN s.1), .val (eN s.2), .own (seenD L), .own (lineD' Q), s4, s5] ∧ Wrk n s L Q ∧ Q.length ≤ L.length
  let J : Sls → Dr → Prop := fun ρ δ' => δ' = δ ∧ ∃ L s4 s5, ρ = [.val (eN s.1), .val (eN s.2), .own (seenD L), .own (lineD' []), s4, s5] ∧ Fnd n s L
  obtain ⟨ρ', δ', e1, e2, L, s4, s5, e3, e4⟩ := while_inv (C := C) (t := dCmp .NotEq (dPeek 3) (dLst (dNil))) (b := dSeq (dSetM 4 (dPop 3)) (dFor it (.n 5) (dIfS (dCmp .NotIn (dPeek 5) (dPeek 2)) (dSeq (dSetItem 2 (dVar 5) (zV (dC (.bl true)))) (dApp 3 (mV (dVar 5)))) (dNop)))) I J (mu n) (fun ρ δ' hI => by
    obtain ⟨rfl, L, Q, s4, s5, rfl, w, hq⟩ := hI
    have hL := nodup_len w.nd w.lt
    have t : dCmp .NotEq (dPeek 3) (dLst (dNil)) C [.val (eN s.1), .val (eN s.2), .own (seenD L), .own (lineD' Q), s4, s5] δ' = .ok (!decide (Q = [])) δ' := cmp_to (peek_own rfl) (lst_to nil_to (by decide)) (ne_nil Q)
    rcases List.eq_nil_or_concat Q with rfl | ⟨Q', h, rfl⟩
    · exact .inl ⟨t, rfl, L, s4, s5, rfl, w.fin⟩
    · rw [List.concat_eq_append] at *
      refine .inr ⟨by rw [t]; simp, ?_⟩
      have hh : h < n := w.lt h (w.sub h (by simp))
      have hp : popL [.val (eN s.1), .val (eN s.2), .own (seenD L), .own (lineD' (Q' ++ [h])), s4, s5] 3 = some (eI h, [.val (eN s.1), .val (eN s.2), .own (seenD L), .own (lineD' Q'), s4, s5]) := by
        have := popL_to (ρ := [.val (eN s.1), .val (eN s.2), .own (seenD L), .own (lineD' (Q' ++ [h])), s4, s5]) (i := 3) (ds := Q'.map eI) (d := eI h) (by unfold lineD'; rw [List.map_append]; rfl)
        exact this
      have hq' : Q'.length ≤ 1000 := by rw [List.length_append] at hq; omega
      have c1 := add_count L Q' (ap s.1 h)
      have c2 := add_count (addL L (ap s.1 h)) (addQ L Q' (ap s.1 h)) (ap s.2 h)
      have wt := w.turn hr hu
      have hL2 := nodup_len wt.nd wt.lt
      have hlQ : Q'.length + 1 ≤ L.length := by rw [List.length_append] at hq; exact hq
      refine ⟨_, δ', seq_to (setm_to (pop_to hp)) ((dFor_to (hit h hh L Q' s5)).trans (for_two (ρ1 := [.val (eN s.1), .val (eN s.2), .own (seenD L), .own (lineD' Q'), .val (eI h), .val (eI (ap s.1 h))]) (ρ3 := [.val (eN s.1), .val (eN s.2), .own (seenD (addL L (ap s.1 h))), .own (lineD' (addQ L Q' (ap s.1 h))), .val (eI h), .val (eI (ap s.2 h))]) rfl (add_step (by omega) hq') rfl (add_step (by omega) (by omega)))), ⟨rfl, _, _, .val (eI h), .val (eI (ap s.2 h)), rfl, wt, by omega⟩, ?_⟩
      unfold mu seenD lineD'
      simp only [List.getElem?_cons_succ, List.getElem?_cons_zero, kd_len, List.length_map, List.length_append, List.length_cons, List.length_nil]
      omega) (ρ := [.val (eN s.1), .val (eN s.2), .own (seenD [0]), .own (lineD' [0]), .no, .no]) (δ := δ) ⟨rfl, [0], [0], .no, .no, rfl, Wrk.start hn, Nat.le_refl _⟩
  subst e2
  subst e3
  exact ⟨L, s4, s5, e4, e1⟩
theorem sp_reached {s : Nm × Nm} (hr : IsN n s.1) (hu : IsN n s.2) (hn : 1 ≤ n) (hm : n ≤ 400) : ∃ L, Fnd n s L ∧ callN (k + 1) i_reached [eN s.1, eN s.2] δ = .ok (seenD L) δ := by
  obtain ⟨L, s4, s5, h1, h2⟩ := bfs (C := ⟨callN k⟩) (δ := δ) hr hu hn hm (it := dIt (dTup (dCons (dIx (dPeek 0) (dPeek 4)) (dCons (dIx (dPeek 1) (dPeek 4)) (dNil))))) (fun h hh L Q s5 =>
    it_to (tup_to (cons_to (ix_to (peek_val rfl) (peek_val rfl) (ix_eN (by rw [hr.len]; exact hh))) (cons_to (ix_to (peek_val rfl) (peek_val rfl) (ix_eN (by rw [hu.len]; exact hh))) nil_to)) two_line) rfl)
  refine ⟨L, h1, ?_⟩
  rw [cn_reached]
  refine run_rt rfl (by decide) (seq_to (par2_to (zo_to (disp1_to (pairs1_to c_to c_to) (by rfl))) (zo_to (lst_to (cons_to c_to nil_to) (by decide))) ⟨show 2 < 6 by decide, show 3 < 6 by decide, by decide⟩) (seq_to h2 (esc_to (ret_to (var_val rfl)))))
theorem sp_is_surface_of {s : Nm × Nm} (h : Surf n s) : callN (k + 3) i_is_surface_of [eS s] δ = .ok (.bl true) δ := by
  obtain ⟨L, f, hc⟩ := sp_reached (k := k + 1) (δ := δ) h.r h.u h.pos (Nat.le_trans h.most (by decide))
  have hl := f.conn_iff.mpr h.conn
  rw [cn_is_surface_of]
  have i0 : ixSem (eS s) (.int 0) = some (eN s.1) := rfl
  have i1 : ixSem (eS s) (.int 1) = some (eN s.2) := rfl
  refine run_rt rfl (by decide) (seq_to (ifs_nop (δ1 := δ) (or_f (not_to (b := true) (tst_to (fun1_to (peek_val rfl) (by rfl)))) (or_f (cmp_to (b := false) (fun1_to (peek_val rfl) (e := eI 2) rfl) c_to (by rfl)) (not_to (b := true) (tst_to (fun1_to (ix_to (peek_val rfl) c_to i0) (by rfl)))))))
    (seq_to (set_to (zv_to (fun1_to (ix_to (peek_val rfl) c_to i0) (len_eN _)))) ?_))
  rw [h.r.len]
  refine seq_to (ifs_nop (δ1 := δ) (or_f (not_to (b := true) (chain_t c_to (peek_val rfl) (y := eI n) ?_ c_to ?_)) (or_f (not_to (b := true) (tst_to (call_to (cons_to (var_val rfl) (cons_to (ix_to (peek_val rfl) c_to i0) nil_to)) (sp_is_naming (k := k) h.r (by have := h.most; omega))))) (not_to (b := true) (tst_to (call_to (cons_to (var_val rfl) (cons_to (ix_to (peek_val rfl) c_to i1) nil_to)) (sp_is_naming (k := k) h.u (by have := h.most; omega))))))))
    (ret_to (bl_to (cmp_to (fun1_to (call_to (cons_to (ix_to (peek_val rfl) c_to i0) (cons_to (ix_to (peek_val rfl) c_to i1) nil_to)) hc) (e := eI n) ?_) (peek_val rfl) ?_)))
  · have := h.pos
    show some (decide ((1 : Int) ≤ n)) = _
    rw [decide_eq_true (by omega)]
  · have := h.most
    show some (decide ((n : Int) ≤ 6)) = _
    rw [decide_eq_true (by omega)]
  · unfold seenD sLen
    simp only [kd_len, List.length_map, hl]
  · rw [eq_len]; simp
theorem sp_need_surface {s : Nm × Nm} (h : Surf n s) : callN (k + 4) i_need_surface [eS s] δ = .ok .non δ := by
  rw [cn_need_surface]
  exact run_nx rfl (by decide) (ifs_nop (not_to (b := true) (tst_to (call_to (cons_to (var_val rfl) nil_to) (sp_is_surface_of (k := k) h)))))
/-- .. of the law: whether one comes from square 0 to all squares -/
theorem sp_law_hangs {s : Nm × Nm} (hr : IsN n s.1) (hu : IsN n s.2) (hn : 1 ≤ n) (hm : n ≤ 400) :
    ∃ b, callN (k + 1) i__law_hangs [eN s.1, eN s.2] δ = .ok (.bl b) δ ∧ (b = true ↔ ∀ S : Nat → Prop, S 0 → Clo n s S → ∀ i, i < n → S i) := by
  obtain ⟨L, s4, s5, h1, h2⟩ := bfs (C := ⟨callN k⟩) (δ := δ) hr hu hn hm (it := dIt (dLst (dCons (dIx (dPeek 0) (dPeek 4)) (dCons (dIx (dPeek 1) (dPeek 4)) (dNil))))) (fun h hh L Q s5 =>
    it_to (lst_to (cons_to (ix_to (peek_val rfl) (peek_val rfl) (ix_eN (by rw [hr.len]; exact hh))) (cons_to (ix_to (peek_val rfl) (peek_val rfl) (ix_eN (by rw [hu.len]; exact hh))) nil_to)) two_line) rfl)
  refine ⟨decide (L.length = n), ?_, by rw [decide_eq_true_iff]; exact h1.conn_iff⟩
  rw [cn__law_hangs]
  refine run_rt rfl (by decide) (seq_to (par2_to (zo_to (disp1_to (pairs1_to c_to c_to) (by rfl))) (zo_to (lst_to (cons_to c_to nil_to) (by decide))) ⟨show 2 < 6 by decide, show 3 < 6 by decide, by decide⟩) (seq_to h2 (ret_to (bl_to (cmp_to (fun1_to (peek_own rfl) (e := eI L.length) ?_) (fun1_to (peek_val rfl) (len_eN _)) ?_)))))
  · unfold seenD sLen
    simp only [kd_len, List.length_map]
  · rw [eq_len, hr.len]
end
end SG


set_option Elab.async false
set_option linter.all false
set_option maxRecDepth 100000
set_option maxHeartbeats 1000000
namespace SG
open PySem PySem.Spec L2
open PyProof.Rows hiding St
/-! ### powers -/
def pw (a : Nm) : Nat → Nm
  | 0 => idN a.length
  | m + 1 => thenN (pw a m) a
theorem IsN.pw {n : Nat} {a : Nm} (h : IsN n a) : ∀ m, IsN n (pw a m)
  | 0 => by unfold SG.pw; rw [h.len]; exact id_isN n
  | m + 1 => (IsN.pw h m).then h
theorem then_assoc {n : Nat} {a b c : Nm} (ha : IsN n a) (hb : IsN n b) (hc : IsN n c) : thenN (thenN a b) c = thenN a (thenN b c) := nm_ext (by simp only [then_len]) fun i hi => by
  rw [then_len, then_len, ha.len] at hi
  rw [ap_then (by rw [then_len, ha.len]; exact hi), ap_then (by rw [ha.len]; exact hi), ap_then (by rw [ha.len]; exact hi), ap_then (by rw [hb.len]; exact ha.lt i hi)]
theorem then_id {n : Nat} {a : Nm} (ha : IsN n a) : thenN a (idN n) = a := nm_ext (then_len _ _) fun i hi => by
  rw [then_len, ha.len] at hi
  rw [ap_then (by rw [ha.len]; exact hi), ap_id (ha.lt i hi)]
theorem id_then {n : Nat} {a : Nm} (ha : IsN n a) : thenN (idN n) a = a := nm_ext (by rw [then_len, ha.len]; exact List.length_range) fun i hi => by
  have hl : (idN n).length = n := List.length_range
  rw [then_len, hl] at hi
  rw [ap_then (by rw [hl]; exact hi), ap_id hi]
theorem then_back {n : Nat} {a : Nm} (ha : IsN n a) : thenN a (backN a) = idN n := nm_ext (by rw [then_len, ha.len]; exact List.length_range.symm) fun i hi => by
  rw [then_len, ha.len] at hi
  rw [ap_then (by rw [ha.len]; exact hi), ha.back_ap hi, ap_id hi]
theorem back_then {n : Nat} {a : Nm} (ha : IsN n a) : thenN (backN a) a = idN n := nm_ext (by rw [then_len, back_len, ha.len]; exact List.length_range.symm) fun i hi => by
  rw [then_len, back_len, ha.len] at hi
  rw [ap_then (by rw [back_len, ha.len]; exact hi), (ha.ap_back hi).2, ap_id hi]
theorem pw_add {n : Nat} {a : Nm} (h : IsN n a) (p : Nat) : ∀ q, pw a (p + q) = thenN (pw a p) (pw a q)
  | 0 => by
    show pw a p = thenN (pw a p) (idN a.length)
    rw [h.len, then_id (h.pw p)]
  | q + 1 => by
    show thenN (pw a (p + q)) a = thenN (pw a p) (thenN (pw a q) a)
    rw [pw_add h p q, then_assoc (h.pw p) (h.pw q) h]
theorem pw_one {n : Nat} {a : Nm} (h : IsN n a) : pw a 1 = a := by
  show thenN (idN a.length) a = a
  rw [h.len, id_then h]
theorem pw_sq {n : Nat} {a : Nm} (h : IsN n a) : ∀ q, pw (thenN a a) q = pw a (2 * q)
  | 0 => by
    show idN (thenN a a).length = idN a.length
    rw [then_len]
  | q + 1 => by
    show thenN (pw (thenN a a) q) (thenN a a) = pw a (2 * q + 2)
    rw [pw_sq h q, pw_add h (2 * q) 2]
    congr 1
    rw [pw_add h 1 1, pw_one h]
def pwZ (a : Nm) (m : Int) : Nm := pw (if 0 ≤ m then a else backN a) m.natAbs
theorem IsN.pwZ {n : Nat} {a : Nm} (h : IsN n a) (m : Int) : IsN n (pwZ a m) := by
  unfold SG.pwZ
  split
  · exact h.pw _
  · exact h.back.pw _
theorem pw_back {n : Nat} {a : Nm} (h : IsN n a) : ∀ m, thenN (pw a m) (pw (backN a) m) = idN n
  | 0 => by
    show thenN (idN a.length) (idN (backN a).length) = _
    rw [back_len, h.len, then_id (id_isN n)]
  | m + 1 => by
    have e : pw (backN a) (m + 1) = thenN (backN a) (pw (backN a) m) := by
      rw [Nat.add_comm, pw_add h.back 1 m, pw_one h.back]
    rw [e]
    show thenN (thenN (pw a m) a) (thenN (backN a) (pw (backN a) m)) = _
    rw [then_assoc (h.pw m) h (h.back.then (h.back.pw m)), ← then_assoc h h.back (h.back.pw m), then_back h, id_then (h.back.pw m), pw_back h m]
theorem pwZ_neg {n : Nat} {a : Nm} (h : IsN n a) (m : Int) : thenN (pwZ a m) (pwZ a (-m)) = idN n := by
  unfold pwZ
  rw [Int.natAbs_neg]
  by_cases h0 : m = 0
  · subst h0
    show thenN (idN a.length) (idN a.length) = _
    rw [h.len, then_id (id_isN n)]
  · by_cases hp : 0 ≤ m
    · rw [if_pos hp, if_neg (by omega)]
      exact pw_back h _
    · rw [if_neg hp, if_pos (by omega)]
      have := pw_back h.back m.natAbs
      rwa [h.back_back] at this
/-! ### moves -/
def shS (s : Nm × Nm) (m : Int) : Nm × Nm := (s.1, thenN s.2 (pwZ s.1 (-m)))
def tuS (s : Nm × Nm) : Nm × Nm := (backN s.2, s.1)
def tuM (s : Nm × Nm) : Nat → Nm × Nm
  | 0 => s
  | q + 1 => tuS (tuM s q)
def mv1 (s : Nm × Nm) (p : Bool × Int) : Nm × Nm := if p.1 then shS s p.2 else tuM s (p.2 % 4).toNat
def mvS (s : Nm × Nm) (row : List (Bool × Int)) : Nm × Nm := row.foldl mv1 s
/-- closed under one naming -/
def Cl (n : Nat) (a : Nm) (S : Nat → Prop) : Prop := ∀ i, i < n → S i → S (ap a i)
section
variable {n : Nat} {a b : Nm} {S : Nat → Prop} {s : Nm × Nm}
theorem Cl.then (ha : IsN n a) (h : Cl n a S) (k : Cl n b S) : Cl n (thenN a b) S := fun i hi hs => by
  rw [ap_then (by rw [ha.len]; exact hi)]
  exact k _ (ha.lt i hi) (h i hi hs)
open Classical in
theorem Cl.back (ha : IsN n a) (h : Cl n a S) : Cl n (backN a) S := fun j hj hs => by
  obtain ⟨i, hi, e⟩ := inj_surj n (fun i => if S i then ap a i else i) (fun i hi => by
    split
    · exact ha.lt i hi
    · exact hi) (fun i k hi hk e => by
    split at e <;> split at e
    · exact ha.inj i k hi hk e
    · rename_i h1 h2; exact absurd (e ▸ h i hi h1) h2
    · rename_i h1 h2; exact absurd (e ▸ h k hk h2) h1
    · exact e) j hj
  split at e
  · rename_i h1
    have := ha.back_ap hi
    rw [e] at this
    rw [this]; exact h1
  · rename_i h1; exact absurd (e ▸ hs) h1
theorem Cl.id : Cl n (idN n) S := fun i hi hs => by rw [ap_id hi]; exact hs
theorem Cl.pw (ha : IsN n a) (h : Cl n a S) : ∀ m, Cl n (pw a m) S
  | 0 => by unfold SG.pw; rw [ha.len]; exact Cl.id
  | m + 1 => (Cl.pw ha h m).then (ha.pw m) h
theorem Cl.pwZ (ha : IsN n a) (h : Cl n a S) (m : Int) : Cl n (pwZ a m) S := by
  unfold SG.pwZ
  split
  · exact h.pw ha _
  · exact (h.back ha).pw ha.back _
theorem clo_cl : Clo n s S ↔ Cl n s.1 S ∧ Cl n s.2 S := ⟨fun h => ⟨fun i hi hs => (h i hi hs).1, fun i hi hs => (h i hi hs).2⟩, fun h i hi hs => ⟨h.1 i hi hs, h.2 i hi hs⟩⟩
theorem shS_back (h1 : IsN n s.1) (h2 : IsN n s.2) (m : Int) : thenN (shS s m).2 (pwZ s.1 m) = s.2 := by
  show thenN (thenN s.2 (pwZ s.1 (-m))) (pwZ s.1 m) = _
  have := pwZ_neg h1 (-m)
  rw [Int.neg_neg] at this
  rw [then_assoc h2 (h1.pwZ _) (h1.pwZ _), this, then_id h2]
theorem Surf.sh (h : Surf n s) (m : Int) : Surf n (shS s m) where
  r := h.r
  u := h.u.then (h.r.pwZ _)
  pos := h.pos
  most := h.most
  conn := fun S h0 hc i hi => h.conn S h0 (clo_cl.mpr (by
    obtain ⟨c1, c2⟩ := clo_cl.mp hc
    refine ⟨c1, ?_⟩
    rw [← shS_back h.r h.u m]
    exact c2.then (h.u.then (h.r.pwZ _)) (Cl.pwZ h.r c1 m))) i hi
theorem Surf.tu (h : Surf n s) : Surf n (tuS s) where
  r := h.u.back
  u := h.r
  pos := h.pos
  most := h.most
  conn := fun S h0 hc i hi => h.conn S h0 (clo_cl.mpr (by
    obtain ⟨c1, c2⟩ := clo_cl.mp hc
    refine ⟨c2, ?_⟩
    have := Cl.back h.u.back c1
    rwa [h.u.back_back] at this)) i hi
theorem Surf.tuM (h : Surf n s) : ∀ q, Surf n (tuM s q)
  | 0 => h
  | q + 1 => (Surf.tuM h q).tu
theorem Surf.mv1 (h : Surf n s) (p : Bool × Int) : Surf n (mv1 s p) := by
  unfold SG.mv1
  split
  · exact h.sh _
  · exact h.tuM _
theorem Surf.mv (h : Surf n s) : ∀ row, Surf n (mvS s row) := fun row => by
  induction row generalizing s with
  | nil => exact h
  | cons p row ih => exact ih (h.mv1 p)
end
/-! ### the program's moves -/
section
variable {δ : Dr} {k n : Nat} {s : Nm × Nm}
theorem small_nat {d : Nat} (h : d < 2 ^ 62) : small (d : Int) = true := by
  unfold small
  rw [decide_eq_true_eq, Int.natAbs_natCast]
  exact Nat.lt_of_lt_of_le h (Nat.pow_le_pow_right (by decide) (by decide))
theorem mod_nat (q d : Nat) (hd : 0 < d) : binSem .Mod (.int q) (.int d) = some (.int ((q % d : Nat) : Int)) := by
  unfold binSem
  simp only
  rw [if_pos (by omega)]
  rfl
theorem div_nat (q d : Nat) (hd : 0 < d) (hs : d < 2 ^ 62) : binSem .FloorDiv (.int q) (.int d) = some (.int ((q / d : Nat) : Int)) := by
  unfold binSem
  simp only
  rw [if_pos (by omega), if_pos (small_nat hs)]
  rfl
theorem sp_then' {a b : Nm} (ha : IsN n a) (hb : IsN n b) (hn : n ≤ 1000) : callN (k + 1) i_then_by [eN a, eN b] δ = .ok (eN (thenN a b)) δ :=
  sp_then_by (small_line (by rw [ha.len]; exact hn)) fun i hi => by rw [hb.len]; exact ha.mem.mp hi
end
end SG


set_option Elab.async false
set_option linter.all false
set_option maxRecDepth 100000
set_option maxHeartbeats 1000000
namespace SG
open PySem PySem.Spec L2
open PyProof.Rows hiding St
/-! ### moves and names, as the program reckons them -/
def eP (p : Bool × Int) : D := .tup [.str (if p.1 then "shear" else "turn"), .int p.2]
def eR (row : List (Bool × Int)) : D := .tup (row.map eP)
def Many (m : Int) : Prop := m.natAbs < 10 ^ 30
def renS (s : Nm × Nm) (p : Nm) : Nm × Nm := (thenN (thenN (backN p) s.1) p, thenN (thenN (backN p) s.2) p)
section
variable {δ : Dr} {k n : Nat} {s : Nm × Nm}
theorem sp_turned_by (h : Surf n s) (m : Int) : callN (k + 2) i_turned_by [eS s, .int m] δ = .ok (eS (tuM s (m % 4).toNat)) δ := by
  rw [cn_turned_by]
  have m1 : binSem .Mod (.int m) (.int 4) = some (.int (((m % 4).toNat : Nat) : Int)) := by
    unfold binSem
    simp only
    rw [if_pos (by decide), Int.toNat_of_nonneg (by omega)]
  have it := rng1_to (C := ⟨callN (k + 1)⟩) (ρ := [.val (eS s), .val (.int m), .no]) (δ := δ) (t := dBin .Mod (dPeek 1) (dC (.int 4))) (n := (m % 4).toNat) (bin_to (peek_val rfl) c_to m1) (by omega)
  let I : Nat → Sls → Dr → Prop := fun i ρ δ' => δ' = δ ∧ ∃ t, ρ = [.val (eS (tuM s i)), .val (.int m), t]
  obtain ⟨ρ', δ', e1, e2, t, e3⟩ := for_inv (C := ⟨callN (k + 1)⟩) (g := .n 2) (b := dSet 0 (zV (dTup (dCons (dCall i_back_by (dCons (dIx (dPeek 0) (dC (.int 1))) (dNil))) (dCons (dIx (dPeek 0) (dC (.int 0))) (dNil)))))) (ds := rngD 0 (m % 4).toNat) I (fun i hi ρ δ2 hI => by
    obtain ⟨rfl, t, rfl⟩ := hI
    have hs := h.tuM i
    exact ⟨_, _, δ2, rfl, .inl (set_to (zv_to (tup_to (cons_to (call_to (cons_to (ix_to (peek_val rfl) c_to (ix1 _)) nil_to) (sp_back_by (k := k) hs.u (Nat.le_trans h.most (by decide)))) (cons_to (ix_to (peek_val rfl) c_to (ix0 _)) nil_to)) two_line))), rfl, _, rfl⟩) ⟨rfl, .no, rfl⟩
  have hl : (rngD 0 (m % 4).toNat).length = (m % 4).toNat := by unfold rngD; rw [List.length_map, List.length_range]
  rw [hl] at e3
  subst e2
  subst e3
  exact run_rt rfl (by decide) (seq_to ((dFor_to it).trans e1) (ret_to (var_val rfl)))
theorem cmp_shear (b : Bool) : cmpSem .Eq (.str (if b then "shear" else "turn")) (.str "shear") = some b := by cases b <;> decide +kernel
/-- a comprehension over two -/
theorem lc_two {C : Ctx} {ρ : Sls} {it : DI} {g : Tg} {te : DE} {vs : List Nat} {d1 d2 e1 e2 : D} {ρ1 ρ2 : Sls} (hi : it C ρ δ = .ok [d1, d2] δ) (ho : ownless ρ vs = true) (h1 : bindT g d1 (wipeR ρ vs) = some ρ1) (t1 : te C ρ1 δ = .ok e1 δ) (h2 : bindT g d2 (wipeR ρ vs) = some ρ2) (t2 : te C ρ2 δ = .ok e2 δ) :
    dLc it g (fun _ _ => M.pure true) te vs C ρ δ = .ok (.lst [e1, e2]) δ := by
  unfold dLc
  rw [bind_to hi, ho, decide_eq_true two_line]
  have n1 : noX (te C ρ1) δ = .ok e1 δ := by unfold noX; rw [t1]
  have n2 : noX (te C ρ2) δ = .ok e2 δ := by unfold noX; rw [t2]
  have nt : noX (M.pure true : M Bool) δ = .ok true δ := rfl
  have l0 : lcM C (wipeR ρ vs) g (fun _ _ => M.pure true) te [] δ = .ok [] δ := rfl
  have l1 : lcM C (wipeR ρ vs) g (fun _ _ => M.pure true) te [d2] δ = .ok [e2] δ := by
    unfold lcM
    rw [h2]
    show (noX (M.pure true) >>= _) δ = _
    rw [bind_to nt]
    show (noX (te C ρ2) >>= _) δ = _
    rw [bind_to n2, bind_to l0]; rfl
  have l2 : lcM C (wipeR ρ vs) g (fun _ _ => M.pure true) te [d1, d2] δ = .ok [e1, e2] δ := by
    unfold lcM
    rw [h1]
    show (noX (M.pure true) >>= _) δ = _
    rw [bind_to nt]
    show (noX (te C ρ1) >>= _) δ = _
    rw [bind_to n1, bind_to l1]; rfl
  have l3 : noX (lcM C (wipeR ρ vs) g (fun _ _ => M.pure true) te [d1, d2]) δ = .ok [e1, e2] δ := by unfold noX; rw [l2]
  show (noX _ >>= _) δ = _
  rw [bind_to l3]; rfl
theorem sp_renamed_by {p : Nm} (h1 : IsN n s.1) (h2 : IsN n s.2) (hp : IsN n p) (hn : n ≤ 1000) : callN (k + 2) i_renamed_by [eS s, eN p] δ = .ok (eS (renS s p)) δ := by
  rw [cn_renamed_by]
  refine run_rt rfl (by decide) (seq_to (set_to (zv_to (call_to (cons_to (var_val rfl) nil_to) (sp_back_by (k := k) hp hn)))) (ret_to (fun1_to (lc_two (it_to (peek_val rfl) rfl) rfl rfl
    (call_to (cons_to (call_to (cons_to (var_val rfl) (cons_to (var_val rfl) nil_to)) (sp_then' (k := k) hp.back h1 hn)) (cons_to (var_val rfl) nil_to)) (sp_then' (k := k) (hp.back.then h1) hp hn)) rfl
    (call_to (cons_to (call_to (cons_to (var_val rfl) (cons_to (var_val rfl) nil_to)) (sp_then' (k := k) hp.back h2 hn)) (cons_to (var_val rfl) nil_to)) (sp_then' (k := k) (hp.back.then h2) hp hn))) rfl)))
end
end SG


set_option Elab.async false
set_option linter.all false
set_option maxRecDepth 100000
set_option maxHeartbeats 1000000
namespace SG
open PySem PySem.Spec L2
open PyProof.Rows hiding St
/-! ### covers -/
/-- f leads one naming to the other -/
def Tw (n : Nat) (f a b : Nm) : Prop := ∀ i, i < n → ap f (ap a i) = ap b (ap f i)
structure Cov (n m : Nat) (s t : Nm × Nm) (f : Nm) : Prop where
  len : f.length = n
  lt : ∀ i, i < n → ap f i < m
  r : Tw n f s.1 t.1
  u : Tw n f s.2 t.2
section
variable {n m : Nat} {s t : Nm × Nm} {f g a b a' b' : Nm}
theorem Tw.then (hf : ∀ i, i < n → ap f i < m) (ha : IsN n a) (hb : IsN m b) (h : Tw n f a b) (k : Tw n f a' b') : Tw n f (thenN a a') (thenN b b') := fun i hi => by
  rw [ap_then (by rw [ha.len]; exact hi), ap_then (by rw [hb.len]; exact hf i hi), k _ (ha.lt i hi), h i hi]
theorem Tw.back (hf : ∀ i, i < n → ap f i < m) (ha : IsN n a) (hb : IsN m b) (h : Tw n f a b) : Tw n f (backN a) (backN b) := fun i hi => by
  have h1 := ha.ap_back hi
  have h2 := h _ h1.1
  rw [h1.2] at h2
  rw [h2, hb.back_ap (hf _ h1.1)]
theorem Tw.id (hf : ∀ i, i < n → ap f i < m) : Tw n f (idN n) (idN m) := fun i hi => by rw [ap_id hi, ap_id (hf i hi)]
theorem Tw.pw (hf : ∀ i, i < n → ap f i < m) (ha : IsN n a) (hb : IsN m b) (h : Tw n f a b) : ∀ q, Tw n f (pw a q) (pw b q)
  | 0 => by unfold SG.pw; rw [ha.len, hb.len]; exact Tw.id hf
  | q + 1 => (Tw.pw hf ha hb h q).then hf (ha.pw q) (hb.pw q) h
theorem Tw.pwZ (hf : ∀ i, i < n → ap f i < m) (ha : IsN n a) (hb : IsN m b) (h : Tw n f a b) (q : Int) : Tw n f (pwZ a q) (pwZ b q) := by
  unfold SG.pwZ
  split
  · exact h.pw hf ha hb _
  · exact (h.back hf ha hb).pw hf ha.back hb.back _
theorem Cov.sh (hs : Surf n s) (ht : Surf m t) (q : Int) : Cov n m (shS s q) (shS t q) f ↔ Cov n m s t f := by
  constructor
  · intro h
    refine ⟨h.len, h.lt, h.r, ?_⟩
    have := Tw.then h.lt (hs.u.then (hs.r.pwZ (-q))) (ht.u.then (ht.r.pwZ (-q))) h.u (Tw.pwZ h.lt hs.r ht.r h.r q)
    have e1 := shS_back hs.r hs.u q
    have e2 := shS_back ht.r ht.u q
    unfold shS at e1 e2
    rw [e1, e2] at this
    exact this
  · intro h
    exact ⟨h.len, h.lt, h.r, Tw.then h.lt hs.u ht.u h.u (Tw.pwZ h.lt hs.r ht.r h.r (-q))⟩
theorem Cov.tu (hs : Surf n s) (ht : Surf m t) : Cov n m (tuS s) (tuS t) f ↔ Cov n m s t f := by
  constructor
  · intro h
    refine ⟨h.len, h.lt, h.u, ?_⟩
    have := Tw.back h.lt hs.u.back ht.u.back h.r
    rw [hs.u.back_back, ht.u.back_back] at this
    exact this
  · intro h
    exact ⟨h.len, h.lt, Tw.back h.lt hs.u ht.u h.u, h.r⟩
theorem Cov.tuM (hs : Surf n s) (ht : Surf m t) : ∀ q, Cov n m (tuM s q) (tuM t q) f ↔ Cov n m s t f
  | 0 => Iff.rfl
  | q + 1 => (Cov.tu (hs.tuM q) (ht.tuM q)).trans (Cov.tuM hs ht q)
/-- covers go along moves -/
theorem Cov.mv (hs : Surf n s) (ht : Surf m t) (row : List (Bool × Int)) : Cov n m (mvS s row) (mvS t row) f ↔ Cov n m s t f := by
  induction row generalizing s t with
  | nil => exact Iff.rfl
  | cons p row ih =>
    refine (ih (hs.mv1 p) (ht.mv1 p)).trans ?_
    unfold mv1
    split
    · exact Cov.sh hs ht _
    · exact Cov.tuM hs ht _
/-- a cover is told by where square 0 goes -/
theorem Cov.one (hs : Surf n s) (h : Cov n m s t f) (k : Cov n m s t g) (h0 : ap f 0 = ap g 0) : f = g := nm_ext (h.len.trans k.len.symm) fun i hi => by
  rw [h.len] at hi
  refine hs.conn (fun i => ap f i = ap g i) h0 (fun i hi e => ?_) i hi
  have e : ap f i = ap g i := e
  show ap f (ap s.1 i) = ap g (ap s.1 i) ∧ ap f (ap s.2 i) = ap g (ap s.2 i)
  exact ⟨by rw [h.r i hi, k.r i hi, e], by rw [h.u i hi, k.u i hi, e]⟩
open Classical in
noncomputable def covAt (n m : Nat) (s t : Nm × Nm) (b : Nat) : Option Nm := if h : ∃ f, Cov n m s t f ∧ ap f 0 = b then some (choose h) else none
theorem covAt_some (hs : Surf n s) {b : Nat} (h : Cov n m s t f) (h0 : ap f 0 = b) : covAt n m s t b = some f := by
  have ex : ∃ f, Cov n m s t f ∧ ap f 0 = b := ⟨f, h, h0⟩
  unfold covAt
  rw [dif_pos ex]
  obtain ⟨h1, h2⟩ := Classical.choose_spec ex
  rw [Cov.one hs h1 h (h2.trans h0.symm)]
theorem covAt_none {b : Nat} (h : ¬ ∃ f, Cov n m s t f ∧ ap f 0 = b) : covAt n m s t b = none := by
  unfold covAt
  rw [dif_neg h]
theorem covAt_is {b : Nat} (h : covAt n m s t b = some f) : Cov n m s t f ∧ ap f 0 = b := by
  unfold covAt at h
  split at h
  · rename_i ex
    cases h
    exact Classical.choose_spec ex
  · cases h
noncomputable def covL (n m : Nat) (s t : Nm × Nm) : List Nm := (List.range m).filterMap (covAt n m s t)
theorem covL_mv (hs : Surf n s) (ht : Surf m t) (row : List (Bool × Int)) : covL n m (mvS s row) (mvS t row) = covL n m s t := by
  unfold covL
  congr 1
  funext b
  by_cases ex : ∃ f, Cov n m s t f ∧ ap f 0 = b
  · obtain ⟨f, h1, h2⟩ := ex
    rw [covAt_some hs h1 h2, covAt_some (hs.mv row) ((Cov.mv hs ht row).mpr h1) h2]
  · rw [covAt_none ex, covAt_none fun ⟨f, h1, h2⟩ => ex ⟨f, (Cov.mv hs ht row).mp h1, h2⟩]
end
/-! ### sorted namings -/
def leN (a b : Nm) : Bool := dle (eN a) (eN b)
def srt (xs : List Nm) : List Nm := xs.mergeSort leN
theorem alikeAll_eI : ∀ a b : Nm, PySem.W.alikeAll (toPys (a.map eI)) (toPys (b.map eI)) = true
  | [], b => by unfold PySem.W.alikeAll; rfl
  | x :: a, [] => by unfold PySem.W.alikeAll; rfl
  | x :: a, y :: b => by
    show (PySem.W.alike (.int _) (.int _) && PySem.W.alikeAll _ _) = true
    have : PySem.W.alike (.int (x : Int)) (.int (y : Int)) = true := by unfold PySem.W.alike; rfl
    rw [this, alikeAll_eI a b]; rfl
theorem alikes_eN (xs : List Nm) : alikes (xs.map eN) = true := by
  unfold alikes
  rw [List.all_eq_true]
  intro x hx
  rw [List.all_eq_true]
  intro y hy
  obtain ⟨a, _, rfl⟩ := List.mem_map.mp hx
  obtain ⟨b, _, rfl⟩ := List.mem_map.mp hy
  show PySem.W.alike (.tuple (toPys (a.map eI))) (.tuple (toPys (b.map eI))) = true
  unfold PySem.W.alike
  exact alikeAll_eI a b
theorem sort_eN {xs : List Nm} (hl : xs.length ≤ LINE) (hne : ∀ a ∈ xs, a ≠ []) : sortD (xs.map eN) = some ((srt xs).map eN) := by
  unfold sortD
  have e : (xs.map eN).mergeSort dle = (srt xs).map eN := (List.map_mergeSort (r := leN) (s := dle) (f := eN) (l := xs) fun _ _ _ _ => rfl).symm
  rw [if_pos, e]
  unfold sortOk
  have h1 : ((xs.map eN).all neTup) = true := by
    rw [List.all_eq_true]
    intro x hx
    obtain ⟨a, ha, rfl⟩ := List.mem_map.mp hx
    cases a with
    | nil => exact absurd rfl (hne _ ha)
    | cons i a => rfl
  rw [alikes_eN, h1, pls_map (pl_eN _), List.length_map, decide_eq_true hl]
  rfl
/-! ### the program's covers -/
section
variable {δ : Dr} {k n m : Nat} {s t : Nm × Nm}
end
end SG


set_option Elab.async false
set_option linter.all false
set_option maxRecDepth 100000
set_option maxHeartbeats 1000000
namespace SG
open PySem PySem.Spec L2
open PyProof.Rows hiding St
/-! ### a table from squares to numbers -/
def tabD (L : List Nat) (F : Nat → Nat) : D := .dct (kd (L.map fun i => (i, eI (F i))))
theorem look_tab {L : List Nat} {F : Nat → Nat} {x : Nat} : (L.map fun i => (i, eI (F i))).lookup x = if x ∈ L then some (eI (F x)) else none := lookup_map (f := fun i => eI (F i))
theorem notin_tab (L : List Nat) (F : Nat → Nat) (x : Nat) : cmpSem .NotIn (eI x) (tabD L F) = some (decide (x ∉ L)) := by
  unfold cmpSem tabD
  simp only [in_kd, look_tab]
  by_cases h : x ∈ L <;> simp [h]
theorem ix_tab {L : List Nat} {F : Nat → Nat} {x : Nat} (h : x ∈ L) : ixSem (tabD L F) (eI x) = some (eI (F x)) := by
  show (if (dKey (eI x)).isSome then dlook _ (eI x) else none) = _
  have : (dKey (eI x)).isSome = true := rfl
  rw [if_pos this, look_kd, look_tab, if_pos h]
def updF (L : List Nat) (F : Nat → Nat) (x v : Nat) : Nat → Nat := if x ∈ L then F else fun i => if i = x then v else F i
theorem updF_old {L : List Nat} {F : Nat → Nat} {x v i : Nat} (h : i ∈ L) : updF L F x v i = F i := by
  unfold updF
  split
  · rfl
  · rename_i hx
    show (if i = x then v else F i) = F i
    rw [if_neg fun (z : i = x) => hx (z ▸ h)]
theorem updF_new {L : List Nat} {F : Nat → Nat} {x v : Nat} (h : x ∉ L) : updF L F x v x = v := by
  unfold updF
  rw [if_neg h]
  simp
theorem set_tab {L : List Nat} {F : Nat → Nat} {x v : Nat} (h : x ∉ L) (hl : L.length ≤ 1000) : setSem (tabD L F) (eI x) (eI v) = some (tabD (addL L x) (updF L F x v)) := by
  unfold tabD
  rw [set_kd (by rw [look_tab, if_neg h]) (by rw [List.length_map]; exact Nat.lt_of_le_of_lt hl (by decide))]
  unfold addL
  rw [if_neg h, List.map_append]
  congr 4
  · exact List.map_congr_left fun i hi => by rw [updF_old hi]
  · simp only [List.map_cons, List.map_nil, updF_new h]
section
variable {δ : Dr} {k n m : Nat} {s t : Nm × Nm} {C : Ctx}
/-- what the table holds -/
structure TabOk (n m : Nat) (s t : Nm × Nm) (b : Nat) (L : List Nat) (F : Nat → Nat) : Prop where
  lt : ∀ i ∈ L, F i < m
  zero : F 0 = b
  cov : ∀ f, Cov n m s t f → ap f 0 = b → ∀ i ∈ L, F i = ap f i
theorem TabOk.step {b x v : Nat} {L : List Nat} {F : Nat → Nat} (w : TabOk n m s t b L F) (h0 : 0 ∈ L) (hv : v < m) (hc : ∀ f, Cov n m s t f → ap f 0 = b → v = ap f x) : TabOk n m s t b (addL L x) (updF L F x v) := by
  by_cases hx : x ∈ L
  · unfold addL updF
    rw [if_pos hx, if_pos hx]
    exact w
  · refine ⟨fun i hi => ?_, by rw [updF_old h0]; exact w.zero, fun f hf h0 i hi => ?_⟩
    · rcases mem_addL.mp hi with hi | rfl
      · rw [updF_old hi]; exact w.lt i hi
      · rw [updF_new hx]; exact hv
    · rcases mem_addL.mp hi with hi | rfl
      · rw [updF_old hi]; exact w.cov f hf h0 i hi
      · rw [updF_new hx]; exact hc f hf h0
def eO : Option Nm → D
  | some f => eN f
  | none => .non
/-! ### all covers -/
theorem covL_len : (covL n m s t).length ≤ m := by
  unfold covL
  exact Nat.le_trans (List.length_filterMap_le ..) (by rw [List.length_range]; exact Nat.le_refl _)
theorem covL_mem {f : Nm} (h : f ∈ covL n m s t) : Cov n m s t f := by
  obtain ⟨b, _, h⟩ := List.mem_filterMap.mp h
  exact (covAt_is h).1
theorem covL_ne (hs : Surf n s) : ∀ f ∈ covL n m s t, f ≠ [] := fun f hf e => by
  have h1 := (covL_mem hf).len
  have := hs.pos
  rw [e] at h1
  simp at h1
  omega
def eL (xs : List Nm) : D := .lst (xs.map eN)
def eT (xs : List Nm) : D := .tup (xs.map eN)
end
end SG


set_option Elab.async false
set_option linter.all false
set_option maxRecDepth 100000
set_option maxHeartbeats 1000000
namespace SG
open PySem PySem.Spec L2
open PyProof.Rows hiding St
/-! ### from any square one reaches all -/
theorem Cl.compl {n : Nat} {a : Nm} {S : Nat → Prop} (ha : IsN n a) (h : Cl n a S) : Cl n a (fun i => ¬ S i) := fun i hi hs h1 => hs (by
  have := Cl.back ha h (ap a i) (ha.lt i hi) h1
  rwa [ha.back_ap hi] at this)
theorem Surf.any {n q : Nat} {s : Nm × Nm} (h : Surf n s) (hq : q < n) (S : Nat → Prop) (h0 : S q) (hc : Clo n s S) : ∀ i, i < n → S i := by
  obtain ⟨c1, c2⟩ := clo_cl.mp hc
  refine h.conn S ?_ hc
  apply Classical.byContradiction
  intro hn
  exact h.conn (fun i => ¬ S i) hn (clo_cl.mpr ⟨c1.compl h.r, c2.compl h.u⟩) q hq h0
/-! ### the walk -/
def walkL (s : Nm × Nm) (q : Nat) : Nat → List Nat
  | 0 => [q]
  | i + 1 => addL (addL (walkL s q i) (ap s.1 (ap (walkL s q i) i))) (ap s.2 (ap (walkL s q i) i))
structure WOk (n : Nat) (s : Nm × Nm) (q i : Nat) (P : List Nat) : Prop where
  nd : P.Nodup
  lt : ∀ x ∈ P, x < n
  q : ap P 0 = q
  le : i ≤ P.length
  pos : 1 ≤ P.length
  clo : ∀ j, j < i → ap s.1 (ap P j) ∈ P ∧ ap s.2 (ap P j) ∈ P
theorem ap_mem {P : List Nat} {i : Nat} (h : i < P.length) : ap P i ∈ P := by rw [ap_lt h]; exact List.getElem_mem h
theorem ap_addL {P : List Nat} {x i : Nat} (h : i < P.length) : ap (addL P x) i = ap P i := by
  unfold addL
  split
  · rfl
  · rw [ap_lt h, ap_lt (by rw [List.length_append]; omega), List.getElem_append_left h]
theorem addL_le (P : List Nat) (x : Nat) : P.length ≤ (addL P x).length := by
  have := add_count P P x
  omega
theorem WOk.more {n q i : Nat} {s : Nm × Nm} {P : List Nat} (hs : Surf n s) (w : WOk n s q i P) (hi : i < n) : i < P.length := by
  apply Classical.byContradiction
  intro hn
  have hl : P.length = i := by have := w.le; omega
  have q0 : q ∈ P := by rw [← w.q]; exact ap_mem (by have := w.pos; omega)
  have all := hs.any (w.lt q q0) (· ∈ P) q0 fun x _ hx => by
    obtain ⟨j, hj, rfl⟩ := List.mem_iff_getElem.mp hx
    have := w.clo j (by omega)
    rwa [ap_lt hj] at this
  have := List.Nodup.length_le_of_subset (l₂ := P) (List.nodup_range (n := n)) fun x hx => all x (List.mem_range.mp hx)
  rw [List.length_range] at this
  omega
theorem walk_ok {n q : Nat} {s : Nm × Nm} (hs : Surf n s) (hq : q < n) : ∀ i, i ≤ n → WOk n s q i (walkL s q i)
  | 0, _ => ⟨by simp [walkL], fun x hx => by simp [walkL] at hx; omega, rfl, Nat.zero_le _, by simp [walkL], fun j hj => absurd hj (Nat.not_lt_zero j)⟩
  | i + 1, h => by
    have w := walk_ok hs hq i (by omega)
    have hi := w.more hs (by omega)
    show WOk n s q (i + 1) (addL (addL (walkL s q i) _) _)
    generalize walkL s q i = P at w hi
    have hm := ap_mem hi
    have hlt := w.lt _ hm
    have l1 := addL_le P (ap s.1 (ap P i))
    have l2 := addL_le (addL P (ap s.1 (ap P i))) (ap s.2 (ap P i))
    refine ⟨add_nd (add_nd w.nd), fun x hx => ?_, ?_, by omega, by omega, fun j hj => ?_⟩
    · rcases mem_addL.mp hx with hx | rfl
      · rcases mem_addL.mp hx with hx | rfl
        · exact w.lt x hx
        · exact hs.r.lt _ hlt
      · exact hs.u.lt _ hlt
    · rw [ap_addL (by have := w.pos; omega), ap_addL w.pos]
      exact w.q
    · rw [ap_addL (by omega), ap_addL (by omega)]
      by_cases e : j = i
      · subst e
        exact ⟨mem_addL.mpr (.inl (mem_addL.mpr (.inr rfl))), mem_addL.mpr (.inr rfl)⟩
      · have := w.clo j (by omega)
        exact ⟨mem_addL.mpr (.inl (mem_addL.mpr (.inl this.1))), mem_addL.mpr (.inl (mem_addL.mpr (.inl this.2)))⟩
/-- the whole walk names the squares -/
theorem walk_isN {n q : Nat} {s : Nm × Nm} (hs : Surf n s) (hq : q < n) : IsN n (walkL s q n) := by
  have w := walk_ok hs hq n (Nat.le_refl _)
  have hl : (walkL s q n).length = n := Nat.le_antisymm (nodup_len w.nd w.lt) w.le
  refine ⟨hl, fun i hi => w.lt _ (ap_mem (by omega)), fun i j hi hj e => ?_⟩
  rw [ap_lt (by omega), ap_lt (by omega)] at e
  exact (List.getElem_inj w.nd).mp e
theorem walk_zero {n q : Nat} {s : Nm × Nm} (hs : Surf n s) (hq : q < n) : ap (walkL s q n) 0 = q := (walk_ok hs hq n (Nat.le_refl _)).q
/-! ### a cover between surfaces of as many squares is a naming -/
theorem Cov.naming {n : Nat} {s t : Nm × Nm} {f : Nm} (hs : Surf n s) (ht : Surf n t) (h : Cov n n s t f) : IsN n f := by
  have sur : ∀ j, j < n → ∃ i, i < n ∧ ap f i = j := ht.any (h.lt 0 hs.pos) (fun j => ∃ i, i < n ∧ ap f i = j) ⟨0, hs.pos, rfl⟩ fun j _ hj => by
    obtain ⟨i, hi, rfl⟩ := hj
    exact ⟨⟨_, hs.r.lt i hi, h.r i hi⟩, ⟨_, hs.u.lt i hi, h.u i hi⟩⟩
  refine ⟨h.len, h.lt, ?_⟩
  have ex : ∀ j, ∃ i, j < n → i < n ∧ ap f i = j := fun j => by
    by_cases hj : j < n
    · obtain ⟨i, hi⟩ := sur j hj
      exact ⟨i, fun _ => hi⟩
    · exact ⟨0, fun z => absurd z hj⟩
  let g : Nat → Nat := fun j => Classical.choose (ex j)
  have hg : ∀ j, j < n → g j < n ∧ ap f (g j) = j := fun j => Classical.choose_spec (ex j)
  have gs := inj_surj n g (fun j hj => (hg j hj).1) fun j k hj hk e => by
    have := (hg j hj).2
    rw [e, (hg k hk).2] at this
    exact this.symm
  intro i j hi hj e
  obtain ⟨a, ha, rfl⟩ := gs i hi
  obtain ⟨b, hb, rfl⟩ := gs j hj
  rw [(hg a ha).2, (hg b hb).2] at e
  rw [e]
theorem addL_map {f : Nm} {n : Nat} (hf : IsN n f) {P : List Nat} {x : Nat} (hP : ∀ y ∈ P, y < n) (hx : x < n) : addL (P.map (ap f)) (ap f x) = (addL P x).map (ap f) := by
  unfold addL
  have : ap f x ∈ P.map (ap f) ↔ x ∈ P := by
    constructor
    · intro h
      obtain ⟨y, hy, e⟩ := List.mem_map.mp h
      rw [← hf.inj y x (hP y hy) hx e]
      exact hy
    · exact fun h => List.mem_map_of_mem h
  by_cases h : x ∈ P
  · rw [if_pos h, if_pos (this.mpr h)]
  · rw [if_neg h, if_neg fun z => h (this.mp z), List.map_append]
    rfl
theorem ap_map {P : List Nat} {g : Nat → Nat} {i : Nat} (h : i < P.length) : ap (P.map g) i = g (ap P i) := by
  rw [ap_lt (by rw [List.length_map]; exact h), List.getElem_map, ap_lt h]
/-- a renaming takes the walk along -/
theorem walk_map {n q : Nat} {s t : Nm × Nm} {f : Nm} (hs : Surf n s) (h : Cov n n s t f) (hf : IsN n f) (hq : q < n) : ∀ i, i ≤ n → walkL t (ap f q) i = (walkL s q i).map (ap f)
  | 0, _ => rfl
  | i + 1, hi => by
    have ih := walk_map hs h hf hq i (by omega)
    have w := walk_ok hs hq i (by omega)
    have hl := w.more hs (by omega)
    show addL (addL (walkL t (ap f q) i) _) _ = (addL (addL (walkL s q i) _) _).map (ap f)
    rw [ih]
    generalize walkL s q i = P at w hl
    have hlt := w.lt _ (ap_mem hl)
    rw [ap_map hl, ← h.r _ hlt, ← h.u _ hlt, addL_map hf w.lt (hs.r.lt _ hlt), addL_map hf (fun y hy => ?_) (hs.u.lt _ hlt)]
    rcases mem_addL.mp hy with hy | rfl
    · exact w.lt y hy
    · exact hs.r.lt _ hlt
/-- the one naming that may lead square 0 to square q -/
def cand (n : Nat) (s t : Nm × Nm) (q : Nat) : Nm := thenN (backN (walkL s 0 n)) (walkL t q n)
theorem cand_isN {n q : Nat} {s t : Nm × Nm} (hs : Surf n s) (ht : Surf n t) (hq : q < n) : IsN n (cand n s t q) := (walk_isN hs hs.pos).back.then (walk_isN ht hq)
theorem cand_zero {n q : Nat} {s t : Nm × Nm} (hs : Surf n s) (ht : Surf n t) (hq : q < n) : ap (cand n s t q) 0 = q := by
  have h0 := walk_isN hs hs.pos
  unfold cand
  rw [ap_then (by rw [back_len, h0.len]; exact hs.pos)]
  have e := h0.back_ap hs.pos
  rw [walk_zero hs hs.pos] at e
  rw [e, walk_zero ht hq]
theorem cand_cov {n q : Nat} {s t : Nm × Nm} {f : Nm} (hs : Surf n s) (ht : Surf n t) (h : Cov n n s t f) (h0 : ap f 0 = q) (hq : q < n) : cand n s t q = f := by
  subst h0
  have hf := h.naming hs ht
  have hw := walk_isN hs hs.pos
  unfold cand
  rw [walk_map hs h hf hs.pos n (Nat.le_refl _)]
  refine nm_ext (by rw [then_len, back_len, hw.len, h.len]) fun i hi => ?_
  rw [then_len, back_len, hw.len] at hi
  have hb := hw.ap_back hi
  rw [ap_then (by rw [back_len, hw.len]; exact hi), ap_map (by rw [hw.len]; exact hb.1), hb.2]
/-- .. is a renaming exactly if it is a cover -/
theorem ren_cov {n : Nat} {s t : Nm × Nm} {p : Nm} (hs : Surf n s) (ht : Surf n t) (hp : IsN n p) : renS s p = t ↔ Cov n n s t p := by
  have one : ∀ a b : Nm, IsN n a → IsN n b → (thenN (thenN (backN p) a) p = b ↔ Tw n p a b) := fun a b ha hb => by
    constructor
    · intro e i hi
      rw [← e, ap_then (by rw [then_len, back_len, hp.len]; exact hp.lt i hi), ap_then (by rw [back_len, hp.len]; exact hp.lt i hi), hp.back_ap hi]
    · intro h
      refine nm_ext (by rw [then_len, then_len, back_len, hp.len, hb.len]) fun i hi => ?_
      rw [then_len, then_len, back_len, hp.len] at hi
      have hk := hp.ap_back hi
      rw [ap_then (by rw [then_len, back_len, hp.len]; exact hi), ap_then (by rw [back_len, hp.len]; exact hi), h _ hk.1, hk.2]
  constructor
  · intro e
    have e1 : thenN (thenN (backN p) s.1) p = t.1 := congrArg Prod.fst e
    have e2 : thenN (thenN (backN p) s.2) p = t.2 := congrArg Prod.snd e
    exact ⟨hp.len, hp.lt, (one _ _ hs.r ht.r).mp e1, (one _ _ hs.u ht.u).mp e2⟩
  · intro h
    exact Prod.ext ((one _ _ hs.r ht.r).mpr h.r) ((one _ _ hs.u ht.u).mpr h.u)
theorem cand_all {n : Nat} {s t : Nm × Nm} (hs : Surf n s) (ht : Surf n t) : ((List.range n).map (cand n s t)).filter (fun p => decide (renS s p = t)) = covL n n s t := by
  unfold covL
  have : ∀ xs : List Nat, (∀ q ∈ xs, q < n) → (xs.map (cand n s t)).filter (fun p => decide (renS s p = t)) = xs.filterMap (covAt n n s t) := fun xs => by
    induction xs with
    | nil => exact fun _ => rfl
    | cons q xs ih =>
      intro h
      have hq := h q List.mem_cons_self
      have ih := ih fun q hq => h q (List.mem_cons_of_mem _ hq)
      rw [List.map_cons, List.filterMap_cons]
      by_cases e : renS s (cand n s t q) = t
      · rw [List.filter_cons_of_pos (by exact decide_eq_true e), ih, covAt_some hs ((ren_cov hs ht (cand_isN hs ht hq)).mp e) (cand_zero hs ht hq)]
      · rw [List.filter_cons_of_neg (by simpa using e), ih, covAt_none]
        intro ⟨f, hf, hf0⟩
        have := cand_cov hs ht hf hf0 hq
        subst this
        exact e ((ren_cov hs ht (cand_isN hs ht hq)).mpr hf)
  exact this _ fun q hq => List.mem_range.mp hq
/-- a surface renamed -/
theorem Cl.ren {n : Nat} {a p : Nm} {S : Nat → Prop} (ha : IsN n a) (hp : IsN n p) (h : Cl n (thenN (thenN (backN p) a) p) S) : Cl n a (fun i => S (ap p i)) := fun i hi hs => by
  have := h (ap p i) (hp.lt i hi) hs
  rwa [ap_then (by rw [then_len, back_len, hp.len]; exact hp.lt i hi), ap_then (by rw [back_len, hp.len]; exact hp.lt i hi), hp.back_ap hi] at this
theorem Surf.ren {n : Nat} {s : Nm × Nm} {p : Nm} (h : Surf n s) (hp : IsN n p) : Surf n (renS s p) where
  r := (hp.back.then h.r).then hp
  u := (hp.back.then h.u).then hp
  pos := h.pos
  most := h.most
  conn := fun S h0 hc j hj => by
    obtain ⟨c1, c2⟩ := clo_cl.mp hc
    have hk := hp.ap_back h.pos
    have := h.any hk.1 (fun i => S (ap p i)) (by rw [hk.2]; exact h0) (clo_cl.mpr ⟨c1.ren h.r hp, c2.ren h.u hp⟩) _ (hp.ap_back hj).1
    rwa [(hp.ap_back hj).2] at this
theorem Cov.ren {n : Nat} {s : Nm × Nm} {p : Nm} (h : Surf n s) (hp : IsN n p) : Cov n n s (renS s p) p := (ren_cov h (h.ren hp) hp).mp rfl
end SG


set_option Elab.async false
set_option linter.all false
set_option maxRecDepth 100000
set_option maxHeartbeats 1000000
namespace SG
open PySem PySem.Spec L2
open PyProof.Rows hiding St
theorem one_line {a : D} : [a].length ≤ LINE := show 1 ≤ LINE by decide
theorem rng_len (i : Int) (n : Nat) : (rngD i n).length = n := by unfold rngD; rw [List.length_map, List.length_range]
theorem rng_get {n i : Nat} (h : i < (rngD 0 n).length) : (rngD 0 n)[i] = eI i := by
  have : rngD 0 n = (List.range n).map eI := rng_eI n
  simp only [this, List.getElem_map, List.getElem_range]
/-- a reading of numbers -/
def onI (f : Nat → D) : D → D
  | .int i => f i.toNat
  | _ => .non
/-- the table of a row: where each square stands -/
def posD (P : List Nat) : D := tabD P fun i => P.idxOf i
theorem posD_add {P : List Nat} {x : Nat} (h : x ∉ P) (hl : P.length ≤ 1000) : setSem (posD P) (eI x) (eI P.length) = some (posD (addL P x)) := by
  unfold posD
  rw [set_tab h hl]
  unfold tabD
  congr 3
  refine List.map_congr_left fun i hi => ?_
  have e : addL P x = P ++ [x] := by unfold addL; rw [if_neg h]
  rcases mem_addL.mp hi with hi | rfl
  · rw [updF_old hi, e]
    show (i, eI (List.idxOf i P)) = (i, eI (List.idxOf i (P ++ [x])))
    rw [List.idxOf_append, if_pos hi]
  · rw [updF_new h, e]
    show (i, eI P.length) = (i, eI (List.idxOf i (P ++ [i])))
    rw [List.idxOf_append, if_neg h]
    simp
section
variable {δ : Dr} {k n m q : Nat} {s t : Nm × Nm} {C : Ctx}
theorem walk_step {a0 a1 a4 a5 a7 : Sl} {P : List Nat} {x : Nat} (hP : P.length ≤ 1000) :
    dIfS (dCmp .NotIn (dPeek 6) (dPeek 2)) (dSeq (dSetItem 2 (dVar 6) (zV (dFun1 sLen (dPeek 3)))) (dApp 3 (mV (dVar 6)))) dNop C [a0, a1, .own (posD P), .own (lineD' P), a4, a5, .val (eI x), a7] δ =
      .ok (.nx [a0, a1, .own (posD (addL P x)), .own (lineD' (addL P x)), a4, a5, .val (eI x), a7]) δ := by
  have t : dCmp .NotIn (dPeek 6) (dPeek 2) C [a0, a1, .own (posD P), .own (lineD' P), a4, a5, .val (eI x), a7] δ = .ok (decide (x ∉ P)) δ := cmp_to (peek_val rfl) (peek_own rfl) (notin_tab P _ x)
  by_cases h : x ∈ P
  · rw [decide_eq_false (by simpa using h)] at t
    have e : addL P x = P := by unfold addL; rw [if_pos h]
    rw [e]
    exact ifs_nop t
  · rw [decide_eq_true h] at t
    have e2 : lineD' (addL P x) = .lst (P.map eI ++ [eI x]) := by unfold lineD' addL; rw [if_neg h, List.map_append]; rfl
    rw [e2]
    exact ifs_t t (seq_to (setItem_to (zv_to (fun1_to (peek_own rfl) (e := eI P.length) (by unfold lineD' sLen; simp only [List.length_map]))) rfl (var_val rfl) (setL_to rfl (posD_add h hP))) (app_to rfl (mv_to (var_val rfl)) (appL_to rfl (by rw [List.length_map]; exact Nat.lt_of_le_of_lt hP (by decide)))))
theorem ix_line {P : List Nat} {i : Nat} (h : i < P.length) : ixSem (lineD' P) (eI i) = some (eI (ap P i)) := ix_eN (a := P) h
theorem posD_all {P : List Nat} (hP : IsN n P) : ((rngD 0 n).map (onI fun i => eI (P.idxOf i))) = (backN P).map eI := by
  rw [rng_eI, List.map_map]
  unfold backN mkN
  rw [hP.len, List.map_map]
  rfl
theorem sp_walk_by (hs : Surf n s) (hq : q < n) : callN (k + 1) i_walk_by [eS s, eI q] δ = .ok (eN (backN (walkL s q n))) δ := by
  rw [cn_walk_by]
  have hn := hs.most
  have hw := walk_isN hs hq
  let I : Nat → Sls → Dr → Prop := fun i ρ δ' => δ' = δ ∧ ∃ s4 s5 s6, ρ = [.val (eS s), .val (eI q), .own (posD (walkL s q i)), .own (lineD' (walkL s q i)), s4, s5, s6, .no]
  obtain ⟨ρ', δ', e1, e2, s4, s5, s6, e3⟩ := for_inv (C := ⟨callN k⟩) (g := .n 4) (b := dFor (dIt (dVar 0)) (.n 5) (dSeq (dSet 6 (zV (dIx (dPeek 5) (dIx (dPeek 3) (dPeek 4))))) (dIfS (dCmp .NotIn (dPeek 6) (dPeek 2)) (dSeq (dSetItem 2 (dVar 6) (zV (dFun1 sLen (dPeek 3)))) (dApp 3 (mV (dVar 6)))) (dNop)))) (ds := rngD 0 n) I (fun i hi ρ δ2 hI => by
    obtain ⟨rfl, s4, s5, s6, rfl⟩ := hI
    rw [rng_get]
    rw [rng_len] at hi
    have w := walk_ok hs hq i (by omega)
    have hm := w.more hs hi
    have hlen := nodup_len w.nd w.lt
    have hlt := w.lt _ (ap_mem hm)
    have st : ∀ (P : List Nat) (a : Nm) (s6 : Sl), i < P.length → P.length ≤ 1000 → ap P i < a.length → (dSeq (dSet 6 (zV (dIx (dPeek 5) (dIx (dPeek 3) (dPeek 4))))) (dIfS (dCmp .NotIn (dPeek 6) (dPeek 2)) (dSeq (dSetItem 2 (dVar 6) (zV (dFun1 sLen (dPeek 3)))) (dApp 3 (mV (dVar 6)))) (dNop))) ⟨callN k⟩ [.val (eS s), .val (eI q), .own (posD P), .own (lineD' P), .val (eI i), .val (eN a), s6, .no] δ2 =
        .ok (.nx [.val (eS s), .val (eI q), .own (posD (addL P (ap a (ap P i)))), .own (lineD' (addL P (ap a (ap P i)))), .val (eI i), .val (eN a), .val (eI (ap a (ap P i))), .no]) δ2 := fun P a s6 h1 h2 h3 =>
      seq_to (set_to (zv_to (ix_to (peek_val rfl) (ix_to (peek_own rfl) (peek_val rfl) (ix_line h1)) (ix_eN h3)))) (walk_step h2)
    have l1 := addL_le (walkL s q i) (ap s.1 (ap (walkL s q i) i))
    have c1 := add_count (walkL s q i) [] (ap s.1 (ap (walkL s q i) i))
    have ea : ap (addL (walkL s q i) (ap s.1 (ap (walkL s q i) i))) i = ap (walkL s q i) i := ap_addL hm
    have st2 := st (addL (walkL s q i) (ap s.1 (ap (walkL s q i) i))) s.2 (.val (eI (ap s.1 (ap (walkL s q i) i)))) (by omega) (by omega) (by rw [ea, hs.u.len]; exact hlt)
    rw [ea] at st2
    refine ⟨[.val (eS s), .val (eI q), .own (posD (walkL s q i)), .own (lineD' (walkL s q i)), .val (eI i), s5, s6, .no], _, δ2, rfl, .inl ((dFor_to (it_to (var_val rfl) rfl)).trans (for_two (ρ1 := [.val (eS s), .val (eI q), .own (posD (walkL s q i)), .own (lineD' (walkL s q i)), .val (eI i), .val (eN s.1), s6, .no]) rfl (st _ _ _ hm (by omega) (by rw [hs.r.len]; exact hlt)) rfl st2)), rfl, .val (eI i), .val (eN s.2), _, rfl⟩) ⟨rfl, .no, .no, .no, rfl⟩
  subst e2
  subst e3
  rw [rng_len] at e1
  refine run_rt rfl (by decide) (seq_to (par2_to (zo_to (disp1_to (pairs1_to (var_val rfl) c_to) (d := posD [q]) ?_)) (zo_to (lst_to (cons_to (var_val rfl) nil_to) one_line)) ⟨show 2 < 8 by decide, show 3 < 8 by decide, by decide⟩) (seq_to ((dFor_to (rng1_to (n := n) (fun1_to (ix_to (peek_val rfl) c_to (ix0 s)) (by rw [len_eN, hs.r.len])) (by omega))).trans e1)
    (ret_to (fun1_to (lc_all (rng1_to (n := n) (fun1_to (peek_own rfl) (by unfold lineD' sLen; simp only [List.length_map, hw.len])) (by omega)) rfl (by rw [rng_len]; exact small_line (by omega)) (y := onI fun i => eI ((walkL s q n).idxOf i)) ?_) ?_))))
  · have : posD [q] = .dct [(eI q, eI 0)] := by
      unfold posD tabD kd
      simp
    rw [this]
    rfl
  · intro d hd
    rw [rng_eI] at hd
    obtain ⟨i, hi, rfl⟩ := List.mem_map.mp hd
    rw [List.mem_range] at hi
    exact ⟨_, rfl, fun δ => ix_to (peek_own rfl) (peek_val rfl) (ix_tab (hw.mem.mpr hi))⟩
  · rw [posD_all hw]
    rfl
/-! ### renamings -/
def decN : D → Nm
  | .tup ds => ds.map fun | .int i => i.toNat | _ => 0
  | _ => []
theorem decN_eN (a : Nm) : decN (eN a) = a := by
  unfold eN decN
  simp only [List.map_map]
  exact List.map_id' a
theorem cmp_eS (s t : Nm × Nm) : cmpSem .Eq (eS s) (eS t) = some (decide (s = t)) := by
  unfold cmpSem
  have h : pl DP (eS s) = true := pl_eS _ s
  have h2 : pl DP (eS t) = true := pl_eS _ t
  simp only [h, h2, Bool.and_self, if_true, deq_eS]
theorem keep_dec (xs : List Nm) (p : Nm → Bool) : (((xs.map eN).filter fun d => p (decN d)).map fun d => d) = (xs.filter p).map eN := by
  rw [List.map_id', List.filter_map]
  congr 1
  refine List.filter_congr fun a _ => ?_
  show p (decN (eN a)) = p a
  rw [decN_eN]
theorem range_eN (n : Nat) (F : Nat → Nm) : ((rngD 0 n).map (onI fun i => eN (F i))) = ((List.range n).map F).map eN := by
  rw [rng_eI, List.map_map, List.map_map]
  rfl
theorem sp_renamings_by (hs : Surf n s) (ht : Surf n t) : callN (k + 3) i_renamings_by [eS s, eS t] δ = .ok (eL (srt (covL n n s t))) δ := by
  rw [cn_renamings_by]
  have hn := hs.most
  have hn2 : n ≤ 1000 := by omega
  have l0 : ∀ (u : Nm × Nm) (hu : Surf n u), sLen (eN u.1) = some (eI n) := fun u hu => by rw [len_eN, hu.r.len]
  refine run_rt rfl (by decide) (seq_to (ifs_nop (cmp_to (b := false) (fun1_to (ix_to (peek_val rfl) c_to (ix0 s)) (l0 s hs)) (fun1_to (ix_to (peek_val rfl) c_to (ix0 t)) (l0 t ht)) (by rw [ne_len]; simp)))
    (seq_to (set_to (zv_to (call_to (cons_to (var_val rfl) (cons_to c_to nil_to)) (sp_walk_by (k := k + 1) hs hs.pos)))) (seq_to (set_to (zv_to (lc_all (ds := rngD 0 n) (rng1_to (fun1_to (ix_to (peek_val rfl) c_to (ix0 t)) (l0 t ht)) (by omega)) rfl (by rw [rng_len]; exact small_line hn2) (y := onI fun i => eN (cand n s t i)) ?_)))
    (ret_to (fun1_to (lc_map (ds := ((List.range n).map (cand n s t)).map eN) (it_to (peek_val rfl) ?_) rfl (by rw [List.length_map, List.length_map, List.length_range]; exact small_line hn2) (p := fun d => decide (renS s (decN d) = t)) (y := fun d => d) ?_) ?_)))))
  · intro d hd
    rw [rng_eI] at hd
    obtain ⟨i, hi, rfl⟩ := List.mem_map.mp hd
    rw [List.mem_range] at hi
    have hw := walk_isN ht hi
    have b1 : callN (k + 2) i_back_by [eN (backN (walkL t i n))] = fun δ => .ok (eN (walkL t i n)) δ := by
      funext δ
      rw [sp_back_by (k := k + 1) hw.back hn2, hw.back_back]
    exact ⟨_, rfl, fun δ => call_to (cons_to (var_val rfl) (cons_to (call_to (cons_to (call_to (cons_to (var_val rfl) (cons_to (var_val rfl) nil_to)) (sp_walk_by (k := k + 1) ht hi)) nil_to) (congrFun b1 δ)) nil_to)) (sp_then' (k := k + 1) (walk_isN hs hs.pos).back hw hn2)⟩
  · rw [range_eN]
    rfl
  · intro d hd
    obtain ⟨a, ha, rfl⟩ := List.mem_map.mp hd
    obtain ⟨i, hi, rfl⟩ := List.mem_map.mp ha
    rw [List.mem_range] at hi
    refine ⟨_, rfl, fun δ => cmp_to (call_to (cons_to (var_val rfl) (cons_to (var_val rfl) nil_to)) (sp_renamed_by (k := k) hs.r hs.u (cand_isN hs ht hi) hn2)) (peek_val rfl) ?_, fun _ δ => var_val rfl⟩
    rw [decN_eN]
    exact cmp_eS _ _
  · rw [keep_dec _ fun a => decide (renS s a = t), cand_all hs ht]
    show (sortD ((covL n n s t).map eN)).map D.lst = _
    rw [sort_eN (small_line (Nat.le_trans covL_len hn2)) (covL_ne hs)]
    rfl
end
end SG


set_option Elab.async false
set_option linter.all false
set_option maxRecDepth 100000
set_option maxHeartbeats 1000000
namespace SG
open PySem PySem.Spec L2
open PyProof.Rows hiding St
/-! ### the law's own reckoning -/
section
variable {δ : Dr} {k n m q : Nat} {s t : Nm × Nm} {C : Ctx}
theorem sp_law_then {a b : Nm} (ha : IsN n a) (hb : IsN n b) (hn : n ≤ 1000) : callN (k + 1) i__law_then [eN a, eN b] δ = .ok (eN (thenN a b)) δ := by
  rw [cn__law_then]
  refine run_rt rfl (by decide) (ret_to (fun1_to (lc_all (it_to (peek_val rfl) (it_eN a)) rfl (by rw [List.length_map, ha.len]; exact small_line hn) (y := onI fun i => eI (ap b i)) ?_) ?_))
  · intro d hd
    obtain ⟨i, hi, rfl⟩ := List.mem_map.mp hd
    exact ⟨_, rfl, fun δ => ix_to (peek_val rfl) (peek_val rfl) (by rw [ix_eN (by rw [hb.len]; exact ha.mem.mp hi)]; rfl)⟩
  · unfold sTuple eN thenN
    simp only [List.map_map]
    rfl
theorem ints_eI : ∀ a : Nm, intsD (a.map eI) = some (a.map fun i : Nat => (i : Int))
  | [] => rfl
  | i :: a => by
    show intsD (.int _ :: _) = _
    unfold intsD
    rw [ints_eI a]
    rfl
theorem idx_cast (a : Nm) (j : Nat) : (a.map fun i : Nat => (i : Int)).idxOf (j : Int) = a.idxOf j := by
  induction a with
  | nil => rfl
  | cons i a ih =>
    rw [List.map_cons, List.idxOf_cons, List.idxOf_cons, ih]
    by_cases h : i = j
    · subst h; simp
    · have h2 : ¬ ((i : Int) = (j : Int)) := by omega
      rw [beq_false_of_ne h, beq_false_of_ne h2]
theorem tidx_eN {a : Nm} {j : Nat} (h : j ∈ a) : sTIdx (a.map eI) (eI j) = some (eI (a.idxOf j)) := by
  show ((intsD (a.map eI)).bind fun ns => if (j : Int) ∈ ns then some (D.int ((ns.idxOf (j : Int) : Nat) : Int)) else none) = _
  rw [ints_eI]
  show (if (j : Int) ∈ a.map (fun i : Nat => (i : Int)) then some (D.int (((a.map fun i : Nat => (i : Int)).idxOf (j : Int) : Nat) : Int)) else none) = _
  rw [if_pos (List.mem_map.mpr ⟨j, h, rfl⟩), idx_cast]
theorem sp_law_back {a : Nm} (ha : IsN n a) (hn : n ≤ 1000) : callN (k + 1) i__law_back [eN a] δ = .ok (eN (backN a)) δ := by
  rw [cn__law_back]
  refine run_rt rfl (by decide) (ret_to (fun1_to (lc_all (ds := rngD 0 n) (rng1_to (fun1_to (peek_val rfl) (by rw [len_eN, ha.len])) (by omega)) rfl (by rw [rng_len]; exact small_line hn) (y := onI fun i => eI (a.idxOf i)) ?_) ?_))
  · intro d hd
    rw [rng_eI] at hd
    obtain ⟨i, hi, rfl⟩ := List.mem_map.mp hd
    rw [List.mem_range] at hi
    exact ⟨_, rfl, fun δ => tidx_to (var_val rfl) (var_val rfl) (tidx_eN (ha.mem.mpr hi))⟩
  · rw [posD_all ha]
    rfl
theorem map_then {a b : Nm} (p : Nm) (ha : IsN n a) (hb : IsN n b) : ((a.map eI).map (onI fun i => eI (ap p (ap b i)))) = (thenN (thenN a b) p).map eI := by
  unfold thenN
  rw [List.map_map, List.map_map, List.map_map]
  rfl
theorem sp_law_renamed {p : Nm} (h1 : IsN n s.1) (h2 : IsN n s.2) (hp : IsN n p) (hn : n ≤ 1000) : callN (k + 2) i__law_renamed [eS s, eN p] δ = .ok (eS (renS s p)) δ := by
  rw [cn__law_renamed]
  have inner : ∀ (a : Nm) (δ : Dr), IsN n a → dFun1 sTuple (dLc (dIt (dPeek 2)) (.n 4) (fun _ _ => M.pure true) (dIx (dPeek 1) (dIx (dPeek 3) (dPeek 4))) [4]) ⟨callN (k + 1)⟩ [.val (eS s), .val (eN p), .val (eN (backN p)), .val (eN a), .no] δ = .ok (eN (thenN (thenN (backN p) a) p)) δ := fun a δ ha => by
    refine fun1_to (lc_all (it_to (peek_val rfl) (it_eN _)) rfl (by rw [List.length_map, back_len, hp.len]; exact small_line hn) (y := onI fun i => eI (ap p (ap a i))) ?_) ?_
    · intro d hd
      obtain ⟨i, hi, rfl⟩ := List.mem_map.mp hd
      have hi := hp.back.mem.mp hi
      exact ⟨_, rfl, fun δ => ix_to (peek_val rfl) (ix_to (peek_val rfl) (peek_val rfl) (ix_eN (by rw [ha.len]; exact hi))) (ix_eN (by rw [hp.len]; exact ha.lt _ hi))⟩
    · rw [map_then p hp.back ha]
      rfl
  exact run_rt rfl (by decide) (seq_to (set_to (zv_to (call_to (cons_to (var_val rfl) nil_to) (sp_law_back (k := k) hp hn)))) (ret_to (fun1_to (lc_two (it_to (peek_val rfl) rfl) rfl rfl (inner s.1 δ h1) rfl (inner s.2 δ h2)) rfl)))
theorem lwalk_step {a0 a1 a4 a6 : Sl} {P : List Nat} {x : Nat} (hP : P.length ≤ 1000) :
    dIfS (dCmp .NotIn (dPeek 5) (dPeek 2)) (dSeq (dSetItem 2 (dVar 5) (zV (dFun1 sLen (dPeek 3)))) (dApp 3 (mV (dVar 5)))) dNop C [a0, a1, .own (posD P), .own (lineD' P), a4, .val (eI x), a6] δ =
      .ok (.nx [a0, a1, .own (posD (addL P x)), .own (lineD' (addL P x)), a4, .val (eI x), a6]) δ := by
  have t : dCmp .NotIn (dPeek 5) (dPeek 2) C [a0, a1, .own (posD P), .own (lineD' P), a4, .val (eI x), a6] δ = .ok (decide (x ∉ P)) δ := cmp_to (peek_val rfl) (peek_own rfl) (notin_tab P _ x)
  by_cases h : x ∈ P
  · rw [decide_eq_false (by simpa using h)] at t
    have e : addL P x = P := by unfold addL; rw [if_pos h]
    rw [e]
    exact ifs_nop t
  · rw [decide_eq_true h] at t
    have e2 : lineD' (addL P x) = .lst (P.map eI ++ [eI x]) := by unfold lineD' addL; rw [if_neg h, List.map_append]; rfl
    rw [e2]
    exact ifs_t t (seq_to (setItem_to (zv_to (fun1_to (peek_own rfl) (e := eI P.length) (by unfold lineD' sLen; simp only [List.length_map]))) rfl (var_val rfl) (setL_to rfl (posD_add h hP))) (app_to rfl (mv_to (var_val rfl)) (appL_to rfl (by rw [List.length_map]; exact Nat.lt_of_le_of_lt hP (by decide)))))
theorem sp_law_walk (hs : Surf n s) (hq : q < n) : callN (k + 1) i__law_walk [eS s, eI q] δ = .ok (eN (backN (walkL s q n))) δ := by
  rw [cn__law_walk]
  have hn := hs.most
  have hw := walk_isN hs hq
  let I : Nat → Sls → Dr → Prop := fun i ρ δ' => δ' = δ ∧ ∃ s4 s5, ρ = [.val (eS s), .val (eI q), .own (posD (walkL s q i)), .own (lineD' (walkL s q i)), s4, s5, .no]
  obtain ⟨ρ', δ', e1, e2, s4, s5, e3⟩ := for_inv (C := ⟨callN k⟩) (g := .n 4) (b := dFor (dIt (dLst (dCons (dIx (dIx (dPeek 0) (dC (.int 0))) (dIx (dPeek 3) (dPeek 4))) (dCons (dIx (dIx (dPeek 0) (dC (.int 1))) (dIx (dPeek 3) (dPeek 4))) (dNil))))) (.n 5) (dIfS (dCmp .NotIn (dPeek 5) (dPeek 2)) (dSeq (dSetItem 2 (dVar 5) (zV (dFun1 sLen (dPeek 3)))) (dApp 3 (mV (dVar 5)))) (dNop))) (ds := rngD 0 n) I (fun i hi ρ δ2 hI => by
    obtain ⟨rfl, s4, s5, rfl⟩ := hI
    rw [rng_get]
    rw [rng_len] at hi
    have w := walk_ok hs hq i (by omega)
    have hm := w.more hs hi
    have hlen := nodup_len w.nd w.lt
    have hlt := w.lt _ (ap_mem hm)
    have c1 := add_count (walkL s q i) [] (ap s.1 (ap (walkL s q i) i))
    have hit : dIt (dLst (dCons (dIx (dIx (dPeek 0) (dC (.int 0))) (dIx (dPeek 3) (dPeek 4))) (dCons (dIx (dIx (dPeek 0) (dC (.int 1))) (dIx (dPeek 3) (dPeek 4))) (dNil)))) ⟨callN k⟩ [.val (eS s), .val (eI q), .own (posD (walkL s q i)), .own (lineD' (walkL s q i)), .val (eI i), s5, .no] δ2 = .ok [eI (ap s.1 (ap (walkL s q i) i)), eI (ap s.2 (ap (walkL s q i) i))] δ2 :=
      it_to (lst_to (cons_to (ix_to (ix_to (peek_val rfl) c_to (ix0 s)) (ix_to (peek_own rfl) (peek_val rfl) (ix_line hm)) (ix_eN (by rw [hs.r.len]; exact hlt))) (cons_to (ix_to (ix_to (peek_val rfl) c_to (ix1 s)) (ix_to (peek_own rfl) (peek_val rfl) (ix_line hm)) (ix_eN (by rw [hs.u.len]; exact hlt))) nil_to)) two_line) rfl
    refine ⟨[.val (eS s), .val (eI q), .own (posD (walkL s q i)), .own (lineD' (walkL s q i)), .val (eI i), s5, .no], _, δ2, rfl, .inl ((dFor_to hit).trans (for_two (ρ1 := [.val (eS s), .val (eI q), .own (posD (walkL s q i)), .own (lineD' (walkL s q i)), .val (eI i), .val (eI (ap s.1 (ap (walkL s q i) i))), .no]) (ρ3 := [.val (eS s), .val (eI q), .own (posD (addL (walkL s q i) (ap s.1 (ap (walkL s q i) i)))), .own (lineD' (addL (walkL s q i) (ap s.1 (ap (walkL s q i) i)))), .val (eI i), .val (eI (ap s.2 (ap (walkL s q i) i))), .no]) rfl (lwalk_step (by omega)) rfl (lwalk_step (by omega)))), rfl, .val (eI i), _, rfl⟩) ⟨rfl, .no, .no, rfl⟩
  subst e2
  subst e3
  rw [rng_len] at e1
  refine run_rt rfl (by decide) (seq_to (par2_to (zo_to (disp1_to (pairs1_to (var_val rfl) c_to) (d := posD [q]) ?_)) (zo_to (lst_to (cons_to (var_val rfl) nil_to) one_line)) ⟨show 2 < 7 by decide, show 3 < 7 by decide, by decide⟩) (seq_to ((dFor_to (rng1_to (n := n) (fun1_to (ix_to (peek_val rfl) c_to (ix0 s)) (by rw [len_eN, hs.r.len])) (by omega))).trans e1)
    (ret_to (fun1_to (lc_all (rng1_to (n := n) (fun1_to (peek_own rfl) (by unfold lineD' sLen; simp only [List.length_map, hw.len])) (by omega)) rfl (by rw [rng_len]; exact small_line (by omega)) (y := onI fun i => eI ((walkL s q n).idxOf i)) ?_) ?_))))
  · have : posD [q] = .dct [(eI q, eI 0)] := by
      unfold posD tabD kd
      simp
    rw [this]
    rfl
  · intro d hd
    rw [rng_eI] at hd
    obtain ⟨i, hi, rfl⟩ := List.mem_map.mp hd
    rw [List.mem_range] at hi
    exact ⟨_, rfl, fun δ => ix_to (peek_own rfl) (peek_val rfl) (ix_tab (hw.mem.mpr hi))⟩
  · rw [posD_all hw]
    rfl
theorem sp_law_renamings (hs : Surf n s) (ht : Surf n t) : callN (k + 3) i__law_renamings [eS s, eS t] δ = .ok (eL (srt (covL n n s t))) δ := by
  rw [cn__law_renamings]
  have hn := hs.most
  have hn2 : n ≤ 1000 := by omega
  have l0 : ∀ (u : Nm × Nm) (hu : Surf n u), sLen (eN u.1) = some (eI n) := fun u hu => by rw [len_eN, hu.r.len]
  refine run_rt rfl (by decide) (seq_to (ifs_nop (cmp_to (b := false) (fun1_to (ix_to (peek_val rfl) c_to (ix0 s)) (l0 s hs)) (fun1_to (ix_to (peek_val rfl) c_to (ix0 t)) (l0 t ht)) (by rw [ne_len]; simp)))
    (seq_to (set_to (zv_to (call_to (cons_to (var_val rfl) (cons_to c_to nil_to)) (sp_law_walk (k := k + 1) hs hs.pos)))) (seq_to (set_to (zv_to (lc_all (ds := rngD 0 n) (rng1_to (fun1_to (ix_to (peek_val rfl) c_to (ix0 t)) (l0 t ht)) (by omega)) rfl (by rw [rng_len]; exact small_line hn2) (y := onI fun i => eN (cand n s t i)) ?_)))
    (ret_to (fun1_to (lc_map (ds := ((List.range n).map (cand n s t)).map eN) (it_to (peek_val rfl) ?_) rfl (by rw [List.length_map, List.length_map, List.length_range]; exact small_line hn2) (p := fun d => decide (renS s (decN d) = t)) (y := fun d => d) ?_) ?_)))))
  · intro d hd
    rw [rng_eI] at hd
    obtain ⟨i, hi, rfl⟩ := List.mem_map.mp hd
    rw [List.mem_range] at hi
    have hw := walk_isN ht hi
    have b1 : callN (k + 2) i__law_back [eN (backN (walkL t i n))] = fun δ => .ok (eN (walkL t i n)) δ := by
      funext δ
      rw [sp_law_back (k := k + 1) hw.back hn2, hw.back_back]
    exact ⟨_, rfl, fun δ => call_to (cons_to (var_val rfl) (cons_to (call_to (cons_to (call_to (cons_to (var_val rfl) (cons_to (var_val rfl) nil_to)) (sp_law_walk (k := k + 1) ht hi)) nil_to) (congrFun b1 δ)) nil_to)) (sp_law_then (k := k + 1) (walk_isN hs hs.pos).back hw hn2)⟩
  · rw [range_eN]
    rfl
  · intro d hd
    obtain ⟨a, ha, rfl⟩ := List.mem_map.mp hd
    obtain ⟨i, hi, rfl⟩ := List.mem_map.mp ha
    rw [List.mem_range] at hi
    refine ⟨_, rfl, fun δ => cmp_to (call_to (cons_to (var_val rfl) (cons_to (var_val rfl) nil_to)) (sp_law_renamed (k := k) hs.r hs.u (cand_isN hs ht hi) hn2)) (peek_val rfl) ?_, fun _ δ => var_val rfl⟩
    rw [decN_eN]
    exact cmp_eS _ _
  · rw [keep_dec _ fun a => decide (renS s a = t), cand_all hs ht]
    show (sortD ((covL n n s t).map eN)).map D.lst = _
    rw [sort_eN (small_line (Nat.le_trans covL_len hn2)) (covL_ne hs)]
    rfl
end
end SG


set_option Elab.async false
set_option linter.all false
set_option maxRecDepth 100000
set_option maxHeartbeats 1000000
namespace SG
open PySem PySem.Spec L2
open PyProof.Rows hiding St
/-! ### the draws -/
section
variable {δ : Dr} {k n m q : Nat} {C : Ctx}
theorem add_ii (a b : Int) : binSem .Add (.int a) (.int b) = some (.int (a + b)) := rfl
theorem sub_ii (a b : Int) : binSem .Sub (.int a) (.int b) = some (.int (a - b)) := rfl
theorem mul_ii {a b : Int} (h : b.natAbs < 2 ^ 64) : binSem .Mult (.int a) (.int b) = some (.int (a * b)) := by
  unfold binSem
  simp only
  rw [if_pos (.inr (.inr h))]
theorem mod_ii {a b : Int} (h : 0 < b) : binSem .Mod (.int a) (.int b) = some (.int (a % b)) := by
  unfold binSem
  simp only
  rw [if_pos h]
theorem div_ii {a b : Int} (h : 0 < b) (h2 : b < 2 ^ 62) : binSem .FloorDiv (.int a) (.int b) = some (.int (a / b)) := by
  unfold binSem
  simp only
  have : small b = true := by
    have := small_nat (d := b.toNat) (by omega)
    rwa [Int.toNat_of_nonneg (by omega)] at this
  rw [if_pos h, if_pos this]
theorem pow_ii {a : Int} (h : a.natAbs < 2 ^ 64) : binSem .Pow (.int a) (.int 5) = some (.int (a ^ 5)) := by
  unfold binSem
  simp only
  rw [if_pos (by omega)]
  rfl
theorem cells_ok {lap found great blend : Int} (hg : 11 < great) : ∀ (r : List Int) (b : Int) (s5 : Sl), 0 ≤ b → b < great → ∃ b' s5', 0 ≤ b' ∧ b' < great ∧
    forC δ.cells 5 (dSet 4 (zV (dBin .Mod (dBin .Add (dBin .Add (dBin .Mult (dPeek 4) (dC (.int 69621))) (dFun1 sInt (dPeek 5))) (dPeek 1)) (dPeek 3)))) C r [.val .draw, .val (.int lap), .val (.int found), .val (.int great), .val (.int b), s5] δ = .ok (.nx [.val .draw, .val (.int lap), .val (.int found), .val (.int great), .val (.int b'), s5']) δ
  | [], b, s5, h1, h2 => ⟨b, s5, h1, h2, by unfold forC; rw [if_pos rfl]⟩
  | c :: r, b, s5, h1, h2 => by
    obtain ⟨b', s5', h3, h4, h5⟩ := cells_ok (blend := blend) hg r ((b * 69621 + c + lap) % great) (.val (.int c)) (Int.emod_nonneg _ (by omega)) (Int.emod_lt_of_pos _ (by omega))
    refine ⟨b', s5', h3, h4, ?_⟩
    unfold forC
    rw [if_pos ⟨rfl, show 5 < 6 by decide⟩]
    have body : dSet 4 (zV (dBin .Mod (dBin .Add (dBin .Add (dBin .Mult (dPeek 4) (dC (.int 69621))) (dFun1 sInt (dPeek 5))) (dPeek 1)) (dPeek 3))) C [.val .draw, .val (.int lap), .val (.int found), .val (.int great), .val (.int b), .val (.int c)] δ = .ok (.nx [.val .draw, .val (.int lap), .val (.int found), .val (.int great), .val (.int ((b * 69621 + c + lap) % great)), .val (.int c)]) δ :=
      set_to (zv_to (bin_to (bin_to (bin_to (bin_to (peek_val rfl) c_to (mul_ii (by decide))) (fun1_to (peek_val rfl) rfl) (add_ii _ _)) (peek_val rfl) (add_ii _ _)) (peek_val rfl) (mod_ii (by omega))))
    exact (bind_to body).trans h5
theorem sp_mixed : ∃ i δ', callN (k + 1) i__law_mixed [.draw] δ = .ok (.int i) δ' := by
  rw [cn__law_mixed]
  let I : Nat → Sls → Dr → Prop := fun i ρ δ' => ∃ lap found s3 s4 s5, ρ = [.val .draw, .val (.int lap), .val (.int found), s3, s4, s5]
  have one : ∀ (great lap found : Int) (s4 s5 : Sl) (δ : Dr), 11 < great → great < 2 ^ 62 → ∃ ρ2, I 0 ρ2 δ ∧ (dSeq (dSet 4 (zV (dBin .Mod (dBin .Add (dBin .Mult (dPeek 1) (dC (.int 48271))) (dBin .FloorDiv (dPeek 3) (dC (.int 11)))) (dPeek 3)))) (dSeq (dForCells 0 5 (dSet 4 (zV (dBin .Mod (dBin .Add (dBin .Add (dBin .Mult (dPeek 4) (dC (.int 69621))) (dFun1 sInt (dPeek 5))) (dPeek 1)) (dPeek 3))))) (dSet 2 (zV (dBin .Add (dBin .Mult (dPeek 2) (dC (.int 2147483659))) (dBin .Mod (dBin .Pow (dPeek 4) (dC (.int 5))) (dPeek 3))))))) ⟨callN k⟩ [.val .draw, .val (.int lap), .val (.int found), .val (.int great), s4, s5] δ = .ok (.nx ρ2) δ := fun great lap found s4 s5 δ h1 h2 => by
    have a1 : dSet 4 (zV (dBin .Mod (dBin .Add (dBin .Mult (dPeek 1) (dC (.int 48271))) (dBin .FloorDiv (dPeek 3) (dC (.int 11)))) (dPeek 3))) ⟨callN k⟩ [.val .draw, .val (.int lap), .val (.int found), .val (.int great), s4, s5] δ = .ok (.nx [.val .draw, .val (.int lap), .val (.int found), .val (.int great), .val (.int ((lap * 48271 + great / 11) % great)), s5]) δ :=
      set_to (zv_to (bin_to (bin_to (bin_to (peek_val rfl) c_to (mul_ii (by decide))) (bin_to (peek_val rfl) c_to (div_ii (by decide) (by decide))) (add_ii _ _)) (peek_val rfl) (mod_ii (by omega))))
    obtain ⟨b', s5', h3, h4, h5⟩ := cells_ok (C := ⟨callN k⟩) (lap := lap) (found := found) (blend := 0) (δ := δ) h1 δ.cells ((lap * 48271 + great / 11) % great) s5 (Int.emod_nonneg _ (by omega)) (Int.emod_lt_of_pos _ (by omega))
    refine ⟨_, ⟨lap, _, _, _, _, rfl⟩, seq_to a1 (seq_to h5 (set_to (zv_to (bin_to (bin_to (peek_val rfl) c_to (mul_ii (by decide))) (bin_to (bin_to (peek_val rfl) c_to (pow_ii (by omega))) (peek_val rfl) (mod_ii (by omega))) (add_ii _ _)))))⟩
  obtain ⟨ρ', δ', e1, lap, found, s3, s4, s5, e2⟩ := for_inv (C := ⟨callN k⟩) (g := .n 3) (b := dSeq (dSet 4 (zV (dBin .Mod (dBin .Add (dBin .Mult (dPeek 1) (dC (.int 48271))) (dBin .FloorDiv (dPeek 3) (dC (.int 11)))) (dPeek 3)))) (dSeq (dForCells 0 5 (dSet 4 (zV (dBin .Mod (dBin .Add (dBin .Add (dBin .Mult (dPeek 4) (dC (.int 69621))) (dFun1 sInt (dPeek 5))) (dPeek 1)) (dPeek 3))))) (dSet 2 (zV (dBin .Add (dBin .Mult (dPeek 2) (dC (.int 2147483659))) (dBin .Mod (dBin .Pow (dPeek 4) (dC (.int 5))) (dPeek 3))))))) (ds := [.int 2147483647, .int 2147483629, .int 2147483587]) (ρ := [.val .draw, .val (.int (δ.turn + 1)), .val (.int 0), .no, .no, .no]) (δ := { δ with turn := δ.turn + 1 }) I (fun i hi ρ δ2 hI => by
    obtain ⟨lap, found, s3, s4, s5, rfl⟩ := hI
    have all : ∀ d ∈ ([.int 2147483647, .int 2147483629, .int 2147483587] : List D), ∃ g : Int, d = .int g ∧ 11 < g ∧ g < 2 ^ 62 := fun d hd => by
      simp only [List.mem_cons, List.not_mem_nil, or_false] at hd
      rcases hd with rfl | rfl | rfl <;> exact ⟨_, rfl, by decide, by decide⟩
    obtain ⟨g, hg, h1, h2⟩ := all _ (List.getElem_mem hi)
    rw [hg]
    obtain ⟨ρ2, hI2, h3⟩ := one g lap found s4 s5 δ2 h1 h2
    exact ⟨_, ρ2, δ2, rfl, .inl h3, hI2⟩) ⟨_, _, _, _, _, rfl⟩
  subst e2
  have st1 : dSetTurn 0 (dBin .Add (dTurn 0) (dC (.int 1))) ⟨callN k⟩ [.val .draw, .no, .no, .no, .no, .no] δ = .ok (.nx [.val .draw, .no, .no, .no, .no, .no]) { δ with turn := δ.turn + 1 } := by
    have : (dBin .Add (dTurn 0) (dC (.int 1))) ⟨callN k⟩ [.val .draw, .no, .no, .no, .no, .no] δ = .ok (.int (δ.turn + 1)) δ := bin_to (ta := dTurn 0) (x := .int δ.turn) (δ1 := δ) rfl c_to (add_ii _ _)
    exact bind_to this
  refine ⟨found, δ', run_rt rfl (by decide) (seq_to st1 (seq_to (par2_to (zv_to (fun1_to (t := dTurn 0) (d := .int (δ.turn + 1)) (δ1 := { δ with turn := δ.turn + 1 }) rfl rfl)) (zv_to c_to) ⟨show 1 < 6 by decide, show 2 < 6 by decide, by decide⟩) (seq_to ((dFor_to (it_to (lst_to (cons_to c_to (cons_to c_to (cons_to c_to nil_to))) (show 3 ≤ LINE by decide)) rfl)).trans e1) (ret_to (var_val rfl)))))⟩
/-- a draw below an amount -/
theorem sp_take {amount : Nat} (h0 : 0 < amount) (h1 : amount ≤ 1000) : ∃ j δ', j < amount ∧ callN (k + 2) i__law_take [.draw, eI amount] δ = .ok (eI j) δ' := by
  rw [cn__law_take]
  have st1 : ∃ δ1, dIfS (dCmp .Eq (dRest 0) (dC (.int 0))) (dSetRest 0 (dIf (dLargeNe 0) (dPopLarge 0) (dCall i__law_mixed (dCons (dVar 0) (dNil))))) (dNop) ⟨callN (k + 1)⟩ [.val .draw, .val (eI amount), .no] δ = .ok (.nx [.val .draw, .val (eI amount), .no]) δ1 := by
    have tt : dCmp .Eq (dRest 0) (dC (.int 0)) ⟨callN (k + 1)⟩ [.val .draw, .val (eI amount), .no] δ = .ok (deq (.int δ.rest) (.int 0)) δ := cmp_to (ta := dRest 0) (x := .int δ.rest) (δ1 := δ) rfl c_to rfl
    cases hb : deq (.int δ.rest) (.int 0) with
    | false => rw [hb] at tt; exact ⟨δ, ifs_nop tt⟩
    | true =>
      rw [hb] at tt
      have hp : pl DP (.lst (δ.large.map D.int)) = true := by unfold pl; exact pls_map (pl_int _) δ.large
      have tl : dLargeNe 0 ⟨callN (k + 1)⟩ [.val .draw, .val (eI amount), .no] δ = .ok (!decide (δ.large = [])) δ := by
        have : (isDraw [.val .draw, .val (eI amount), .no] 0 && pl DP (.lst (δ.large.map D.int))) = true := by rw [hp]; rfl
        unfold dLargeNe
        rw [this]
        simp only [deq_lst]
        cases δ.large <;> simp [deqs]
      cases hl : δ.large with
      | nil =>
        obtain ⟨i, δ', hm⟩ := sp_mixed (k := k) (δ := δ)
        rw [hl] at tl
        have v : (dIf (dLargeNe 0) (dPopLarge 0) (dCall i__law_mixed (dCons (dVar 0) (dNil)))) ⟨callN (k + 1)⟩ [.val .draw, .val (eI amount), .no] δ = .ok (.int i) δ' := if_f tl (call_to (cons_to (var_val rfl) nil_to) hm)
        exact ⟨{ δ' with rest := i }, ifs_t tt (bind_to v)⟩
      | cons x r =>
        rw [hl] at tl
        have v : (dIf (dLargeNe 0) (dPopLarge 0) (dCall i__law_mixed (dCons (dVar 0) (dNil)))) ⟨callN (k + 1)⟩ [.val .draw, .val (eI amount), .no] δ = .ok (.int x) { δ with large := r } := if_t tl (by
          unfold dPopLarge
          rw [hl]
          rfl)
        exact ⟨{ δ with large := r, rest := x }, ifs_t tt (bind_to v)⟩
  obtain ⟨δ1, e1⟩ := st1
  have hn : 0 ≤ δ1.rest % (amount : Int) := Int.emod_nonneg _ (by omega)
  have hlt : δ1.rest % (amount : Int) < amount := Int.emod_lt_of_pos _ (by omega)
  refine ⟨(δ1.rest % (amount : Int)).toNat, { δ1 with rest := δ1.rest / (amount : Int) }, by omega, ?_⟩
  have ej : eI (δ1.rest % (amount : Int)).toNat = .int (δ1.rest % (amount : Int)) := by
    show D.int _ = _
    rw [Int.toNat_of_nonneg hn]
  rw [ej]
  have d3 : dBin .FloorDiv (dFun1 sInt (dRest 0)) (dPeek 1) ⟨callN (k + 1)⟩ [.val .draw, .val (eI amount), .val (.int (δ1.rest % (amount : Int)))] δ1 = .ok (.int (δ1.rest / (amount : Int))) δ1 :=
    bin_to (fun1_to (t := dRest 0) (d := .int δ1.rest) (δ1 := δ1) rfl rfl) (peek_val rfl) (div_ii (by omega) (by omega))
  exact run_rt rfl (by decide) (seq_to e1 (seq_to (set_to (zv_to (bin_to (fun1_to (t := dRest 0) (d := .int δ1.rest) (δ1 := δ1) rfl rfl) (peek_val rfl) (mod_ii (by omega))))) (seq_to (bind_to d3) (ret_to (var_val rfl)))))
theorem sp_pick {ds : List D} (h0 : 0 < ds.length) (h1 : ds.length ≤ 1000) : ∃ d δ', d ∈ ds ∧ callN (k + 3) i__law_pick [.draw, .lst ds] δ = .ok d δ' := by
  obtain ⟨j, δ', hj, e⟩ := sp_take (k := k) (δ := δ) h0 h1
  rw [cn__law_pick]
  exact ⟨ds[j], δ', List.getElem_mem hj, run_rt rfl (by decide) (ret_to (ix_to (peek_val rfl) (call_to (cons_to (var_val rfl) (cons_to (fun1_to (peek_val rfl) rfl) nil_to)) e) (atI_nat hj)))⟩
theorem perm_isN {a : Nm} (h : a.Perm (List.range n)) : IsN n a := by
  have hl : a.length = n := by rw [h.length_eq, List.length_range]
  have nd : a.Nodup := h.nodup_iff.mpr List.nodup_range
  refine ⟨hl, fun i hi => List.mem_range.mp (h.mem_iff.mp (ap_mem (by omega))), fun i j hi hj e => ?_⟩
  rw [ap_lt (by omega), ap_lt (by omega)] at e
  exact (List.getElem_inj nd).mp e
theorem popAt_eq {ρ : Sls} {i j : Nat} {ds : List D} (h : ρ[i]? = some (.own (.lst ds))) (hj : j < ds.length) (hl : j ≤ 1000) : popAtL ρ i (eI j) = some (ds[j], ρ.set i (.own (.lst (ds.eraseIdx j)))) := by
  have this : 0 ≤ (j : Int) ∧ (j : Int) < 2 ^ 63 := ⟨Int.natCast_nonneg j, by omega⟩
  have e : ownL ρ i = some ds := by unfold ownL; rw [h]
  have e3 : ds[j]? = some ds[j] := List.getElem?_eq_getElem hj
  unfold popAtL
  simp only [e, Option.bind_some, this, and_self, if_true, e3, Option.map_some, Int.toNat_natCast]
theorem erase_perm {α : Type} {L : List α} {j : Nat} (hj : j < L.length) : ([L[j]] ++ L.eraseIdx j).Perm L := by
  have e : L = L.take j ++ L[j] :: L.drop (j + 1) := by rw [← List.drop_eq_getElem_cons hj, List.take_append_drop]
  have e2 : L.eraseIdx j = L.take j ++ L.drop (j + 1) := List.eraseIdx_eq_take_drop_succ L j
  rw [e2]
  show (L[j] :: (L.take j ++ L.drop (j + 1))).Perm L
  exact List.perm_middle.symm.trans (List.Perm.of_eq e.symm)
theorem erase_map {α β : Type} {f : α → β} {L : List α} {j : Nat} : (L.map f).eraseIdx j = (L.eraseIdx j).map f := by
  rw [List.eraseIdx_eq_take_drop_succ, List.eraseIdx_eq_take_drop_succ, List.map_append, List.map_take, List.map_drop]
theorem sp_shuffled {xs : Nm} (hl : xs.length ≤ 1000) : ∃ (ys : Nm) (δ' : Dr), ys.Perm xs ∧ callN (k + 3) i__law_shuffled [.draw, .lst (xs.map eI)] δ = .ok (.lst (ys.map eI)) δ' := by
  rw [cn__law_shuffled]
  let I : Sls → Dr → Prop := fun ρ δ' => ∃ L F, ρ = [.val .draw, .val (.lst (xs.map eI)), .own (lineD' L), .own (lineD' F)] ∧ (F ++ L).Perm xs
  let J : Sls → Dr → Prop := fun ρ δ' => ∃ F, ρ = [.val .draw, .val (.lst (xs.map eI)), .own (lineD' []), .own (lineD' F)] ∧ F.Perm xs
  obtain ⟨ρ', δ', e1, F, e2, e3⟩ := while_inv (C := ⟨callN (k + 2)⟩) (t := dCmp .NotEq (dPeek 2) (dLst (dNil))) (b := dApp 3 (dPopAt 2 (dCall i__law_take (dCons (dVar 0) (dCons (dFun1 sLen (dPeek 2)) (dNil)))))) I J (fun ρ => match ρ[2]? with | some (Sl.own (D.lst qs)) => qs.length | _ => 0) (fun ρ δ hI => by
    obtain ⟨L, F, rfl, hp⟩ := hI
    have tt : dCmp .NotEq (dPeek 2) (dLst (dNil)) ⟨callN (k + 2)⟩ [.val .draw, .val (.lst (xs.map eI)), .own (lineD' L), .own (lineD' F)] δ = .ok (!decide (L = [])) δ := cmp_to (peek_own rfl) (lst_to nil_to (by decide)) (ne_nil L)
    by_cases hL : L = []
    · subst hL
      rw [List.append_nil] at hp
      exact .inl ⟨tt, F, rfl, hp⟩
    · rw [decide_eq_false hL] at tt
      have hlen := hp.length_eq
      rw [List.length_append] at hlen
      have hpos : 0 < L.length := List.length_pos_iff.mpr hL
      obtain ⟨j, δ1, hj, ht⟩ := sp_take (k := k) (δ := δ) hpos (by omega)
      have hpop : popAtL [.val .draw, .val (.lst (xs.map eI)), .own (lineD' L), .own (lineD' F)] 2 (eI j) = some (eI (ap L j), [.val .draw, .val (.lst (xs.map eI)), .own (lineD' (L.eraseIdx j)), .own (lineD' F)]) := by
        have hlj : j < (L.map eI).length := by rw [List.length_map]; exact hj
        have := popAt_eq (ρ := [.val .draw, .val (.lst (xs.map eI)), .own (lineD' L), .own (lineD' F)]) (i := 2) (ds := L.map eI) (j := j) rfl hlj (by omega)
        rw [this, List.getElem_map, ap_lt hj, erase_map]
        rfl
      have happ : appL [.val .draw, .val (.lst (xs.map eI)), .own (lineD' (L.eraseIdx j)), .own (lineD' F)] 3 (eI (ap L j)) = some [.val .draw, .val (.lst (xs.map eI)), .own (lineD' (L.eraseIdx j)), .own (lineD' (F ++ [ap L j]))] := by
        have := appL_to (ρ := [.val .draw, .val (.lst (xs.map eI)), .own (lineD' (L.eraseIdx j)), .own (lineD' F)]) (i := 3) (ds := F.map eI) (d := eI (ap L j)) rfl (by rw [List.length_map]; exact Nat.lt_of_le_of_lt (show F.length ≤ 1000 by omega) (by decide))
        rw [this]
        unfold lineD'
        rw [List.map_append]
        rfl
      refine .inr ⟨tt, _, δ1, app_to rfl (popAt_to rfl (call_to (cons_to (var_val rfl) (cons_to (fun1_to (peek_own rfl) (e := eI L.length) (by unfold lineD' sLen; simp only [List.length_map])) nil_to)) ht) hpop) happ, ⟨_, _, rfl, ?_⟩, ?_⟩
      · refine List.Perm.trans ?_ hp
        rw [List.append_assoc, ap_lt hj]
        refine List.Perm.append_left F ?_
        exact erase_perm hj
      · unfold lineD'
        simp only [List.getElem?_cons_succ, List.getElem?_cons_zero, List.length_map, List.length_eraseIdx_of_lt hj]
        omega) (ρ := [.val .draw, .val (.lst (xs.map eI)), .own (lineD' xs), .own (lineD' [])]) (δ := δ) ⟨xs, [], rfl, by simp⟩
  subst e2
  exact ⟨F, δ', e3, run_rt rfl (by decide) (seq_to (par2_to (zo_to (fun1_to (peek_val rfl) rfl)) (zo_to (lst_to nil_to (by decide))) ⟨show 2 < 4 by decide, show 3 < 4 by decide, by decide⟩) (seq_to e1 (esc_to (ret_to (var_val rfl)))))⟩
theorem sp_naming (hn : n ≤ 1000) : ∃ a δ', IsN n a ∧ callN (k + 4) i__law_naming [.draw, eI n] δ = .ok (eN a) δ' := by
  obtain ⟨ys, δ', hp, e⟩ := sp_shuffled (k := k) (δ := δ) (xs := List.range n) (by rw [List.length_range]; exact hn)
  rw [cn__law_naming]
  refine ⟨ys, δ', perm_isN hp, run_rt rfl (by decide) (ret_to (fun1_to (call_to (cons_to (var_val rfl) (cons_to (rg1_to (n := n) (var_val rfl) (by omega)) nil_to)) (by rw [rng_eI]; exact e)) rfl))⟩
end
end SG


set_option Elab.async false
set_option linter.all false
set_option maxRecDepth 100000
set_option maxHeartbeats 1000000
namespace SG
open PySem PySem.Spec L2
open PyProof.Rows hiding St
/-! ### the law's surfaces -/
def rotS (n j : Nat) : Nm := mkN n fun i => (i + j) % n
theorem six {n : Nat} (h : 1 ≤ n) (h2 : n ≤ 6) : n = 1 ∨ n = 2 ∨ n = 3 ∨ n = 4 ∨ n = 5 ∨ n = 6 := by omega
theorem rot_isN {n : Nat} (h : 1 ≤ n) (h2 : n ≤ 6) (j : Nat) : IsN n (rotS n j) := mkN_isN (fun i _ => Nat.mod_lt _ (by omega)) fun i k hi hk e => by
  rcases six h h2 with rfl | rfl | rfl | rfl | rfl | rfl <;> omega
theorem Surf.rot {n : Nat} {u : Nm} (h : 1 ≤ n) (h2 : n ≤ 6) (hu : IsN n u) : Surf n (rotS n 1, u) where
  r := rot_isN h h2 1
  u := hu
  pos := h
  most := h2
  conn := fun S h0 hc => by
    intro i
    induction i with
    | zero => exact fun _ => h0
    | succ i ih =>
      intro hi
      have := (hc i (by omega) (ih (by omega))).1
      have e : ap (rotS n 1) i = i + 1 := by
        unfold rotS
        rw [ap_mkN _ (by omega), Nat.mod_eq_of_lt hi]
      have e2 : ap ((rotS n 1, u) : Nm × Nm).1 i = i + 1 := e
      rwa [e2] at this
theorem isN_of {n : Nat} {a : Nm} (h : a.length = n) (h2 : ∀ x ∈ a, x < n) (nd : a.Nodup) : IsN n a := by
  refine ⟨h, fun i hi => h2 _ (ap_mem (by omega)), fun i j hi hj e => ?_⟩
  rw [ap_lt (by omega), ap_lt (by omega)] at e
  exact (List.getElem_inj nd).mp e
section
variable {δ : Dr} {k n m q : Nat} {s t : Nm × Nm} {C : Ctx}
theorem for_or {g : Tg} {b : DS} (I : Sls → Prop) (P : D → Prop) : ∀ {ds : List D} {ρ : Sls} {δ : Dr}, (∀ d ∈ ds, ∀ ρ δ, I ρ → ∃ ρ1, bindT g d ρ = some ρ1 ∧ ∃ δ2, (∃ ρ2, b C ρ1 δ = .ok (.nx ρ2) δ2 ∧ I ρ2) ∨ (∃ r, b C ρ1 δ = .ok (.rt r) δ2 ∧ P r)) → I ρ →
    ∃ δ', (∃ ρ', forM' g b C ds ρ δ = .ok (.nx ρ') δ' ∧ I ρ') ∨ (∃ r, forM' g b C ds ρ δ = .ok (.rt r) δ' ∧ P r)
  | [], ρ, δ, _, h0 => ⟨δ, .inl ⟨ρ, rfl, h0⟩⟩
  | d :: ds, ρ, δ, h, h0 => by
    obtain ⟨ρ1, h1, δ2, h2⟩ := h d List.mem_cons_self ρ δ h0
    rcases h2 with ⟨ρ2, h3, h4⟩ | ⟨r, h3, h4⟩
    · obtain ⟨δ', h5⟩ := for_or (g := g) (b := b) I P (ds := ds) (ρ := ρ2) (δ := δ2) (fun d hd => h d (List.mem_cons_of_mem _ hd)) h4
      rw [for_cons h1 h3]
      exact ⟨δ', h5⟩
    · exact ⟨δ2, .inr ⟨r, by rw [for_cons h1 h3]; rfl, h4⟩⟩
def own5 : List (Nm × Nm) := [([1, 2, 3, 4, 0], [0, 2, 4, 1, 3]), ([1, 2, 3, 4, 0], [0, 2, 1, 4, 3])]
def own6 : List (Nm × Nm) := [([1, 2, 3, 4, 5, 0], [2, 4, 3, 5, 1, 0]), ([1, 2, 3, 4, 5, 0], [3, 5, 4, 0, 2, 1])]
theorem own5_ok : ∀ s ∈ own5, Surf 5 s := fun s hs => by
  simp only [own5, List.mem_cons, List.not_mem_nil, or_false] at hs
  rcases hs with rfl | rfl <;> exact Surf.rot (n := 5) (by decide) (by decide) (isN_of (by decide) (by decide) (by decide))
theorem own6_ok : ∀ s ∈ own6, Surf 6 s := fun s hs => by
  simp only [own6, List.mem_cons, List.not_mem_nil, or_false] at hs
  rcases hs with rfl | rfl <;> exact Surf.rot (n := 6) (by decide) (by decide) (isN_of (by decide) (by decide) (by decide))
theorem rot_right (h : 1 ≤ n) (h2 : n ≤ 6) : D.tup (rngD 1 ((n : Int) - 1).toNat ++ [.int 0]) = eN (rotS n 1) := by
  rcases six h h2 with rfl | rfl | rfl | rfl | rfl | rfl <;> rfl
theorem sp_law_surface {most : Nat} (hm1 : 1 ≤ most) (hm6 : most ≤ 6) : ∃ n s δ', n ≤ most ∧ Surf n s ∧ callN (k + 5) i__law_surface [.draw, eI most] δ = .ok (eS s) δ' := by
  rw [cn__law_surface]
  have st1 : ∃ many δ1, 1 ≤ many ∧ many ≤ most ∧ dSet 2 (zV (dIf (dCmp .Eq (dCall i__law_take (dCons (dVar 0) (dCons (dC (.int 3)) (dNil)))) (dC (.int 0))) (dBin .Add (dC (.int 1)) (dCall i__law_take (dCons (dVar 0) (dCons (dVar 1) (dNil))))) (dBin .Sub (dPeek 1) (dCall i__law_take (dCons (dVar 0) (dCons (dFun2 sMin2 (dC (.int 2)) (dPeek 1)) (dNil))))))) ⟨callN (k + 4)⟩ [.val .draw, .val (eI most), .no, .no, .no, .no, .no, .no, .no] δ = .ok (.nx [.val .draw, .val (eI most), .val (eI many), .no, .no, .no, .no, .no, .no]) δ1 := by
    obtain ⟨j, δ1, hj, e1⟩ := sp_take (k := k + 2) (δ := δ) (amount := 3) (by decide) (by decide)
    have tt : dCmp .Eq (dCall i__law_take (dCons (dVar 0) (dCons (dC (.int 3)) (dNil)))) (dC (.int 0)) ⟨callN (k + 4)⟩ [.val .draw, .val (eI most), .no, .no, .no, .no, .no, .no, .no] δ = .ok (decide (j = 0)) δ1 := cmp_to (call_to (cons_to (var_val rfl) (cons_to c_to nil_to)) e1) c_to (eq_len j 0)
    by_cases h : j = 0
    · rw [decide_eq_true h] at tt
      obtain ⟨i, δ2, hi, e2⟩ := sp_take (k := k + 2) (δ := δ1) (amount := most) (by omega) (by omega)
      refine ⟨1 + i, δ2, by omega, by omega, set_to (zv_to (if_t tt (bin_to c_to (call_to (cons_to (var_val rfl) (cons_to (var_val rfl) nil_to)) e2) ?_)))⟩
      show some (D.int (1 + (i : Int))) = some (D.int ((1 + i : Nat) : Int))
      rw [Int.natCast_add]; rfl
    · rw [decide_eq_false h] at tt
      have hmin : sMin2 (.int 2) (eI most) = some (eI (min 2 most)) := by
        show some (D.int (if (most : Int) < 2 then (most : Int) else 2)) = some (D.int ((min 2 most : Nat) : Int))
        have : (if (most : Int) < 2 then (most : Int) else 2) = ((min 2 most : Nat) : Int) := by split <;> omega
        rw [this]
      obtain ⟨i, δ2, hi, e2⟩ := sp_take (k := k + 2) (δ := δ1) (amount := min 2 most) (by omega) (by omega)
      refine ⟨most - i, δ2, by omega, by omega, set_to (zv_to (if_f tt (bin_to (peek_val rfl) (call_to (cons_to (var_val rfl) (cons_to (fun2_to c_to (peek_val rfl) hmin) nil_to)) e2) ?_)))⟩
      show some (D.int ((most : Int) - (i : Int))) = some (D.int ((most - i : Nat) : Int))
      have : (most : Int) - (i : Int) = ((most - i : Nat) : Int) := by omega
      rw [this]
  obtain ⟨many, δ1, hp, hle, e1⟩ := st1
  have h6 : many ≤ 6 := by omega
  have nm : ∀ δ, ∃ a δ', IsN many a ∧ True ∧ callN (k + 4) i__law_naming [.draw, eI many] δ = .ok (eN a) δ' := fun δ => by
    obtain ⟨a, δ', h1, h2⟩ := sp_naming (k := k) (δ := δ) (n := many) (by omega)
    exact ⟨a, δ', h1, trivial, h2⟩
  -- the rest of the body, from the loop on
  have tail : ∀ δ, ∃ s δ', Surf many s ∧ (dSeq (dFor (dRng1 (dC (.int 8))) (.n 3) (dSeq (dSet 8 (zV (dTup (dCons (dCall i__law_naming (dCons (dVar 0) (dCons (dVar 2) (dNil)))) (dCons (dCall i__law_naming (dCons (dVar 0) (dCons (dVar 2) (dNil)))) (dNil)))))) (dIfS (dTst (dCall i__law_hangs (dCons (dIx (dPeek 8) (dC (.int 0))) (dCons (dIx (dPeek 8) (dC (.int 1))) (dNil))))) (dRet (dVar 8)) (dNop)))) (dSeq (dSet 4 (zV (dFun1 sTuple (dBin .Add (dRg2 .lst (dC (.int 1)) (dVar 2)) (dLst (dCons (dC (.int 0)) (dNil))))))) (dRet (dCall i__law_renamed (dCons (dTup (dCons (dVar 4) (dCons (dCall i__law_naming (dCons (dVar 0) (dCons (dVar 2) (dNil)))) (dNil)))) (dCons (dCall i__law_naming (dCons (dVar 0) (dCons (dVar 2) (dNil)))) (dNil))))))) ⟨callN (k + 4)⟩ [.val .draw, .val (eI most), .val (eI many), .no, .no, .no, .no, .no, .no] δ = .ok (.rt (eS s)) δ' := fun δ => by
    obtain ⟨δ2, h⟩ := for_or (C := ⟨callN (k + 4)⟩) (g := .n 3) (b := dSeq (dSet 8 (zV (dTup (dCons (dCall i__law_naming (dCons (dVar 0) (dCons (dVar 2) (dNil)))) (dCons (dCall i__law_naming (dCons (dVar 0) (dCons (dVar 2) (dNil)))) (dNil)))))) (dIfS (dTst (dCall i__law_hangs (dCons (dIx (dPeek 8) (dC (.int 0))) (dCons (dIx (dPeek 8) (dC (.int 1))) (dNil))))) (dRet (dVar 8)) (dNop))) (fun ρ => ∃ s3 s8, ρ = [.val .draw, .val (eI most), .val (eI many), s3, .no, .no, .no, .no, s8]) (fun d => ∃ s, d = eS s ∧ Surf many s) (ds := rngD 0 8) (ρ := [.val .draw, .val (eI most), .val (eI many), .no, .no, .no, .no, .no, .no]) (δ := δ) (fun d _ ρ δ hI => by
      obtain ⟨s3, s8, rfl⟩ := hI
      obtain ⟨a, δa, ha, _, ea⟩ := nm δ
      obtain ⟨b, δb, hb, _, eb⟩ := nm δa
      obtain ⟨r, hr, hiff⟩ := sp_law_hangs (k := k + 3) (δ := δb) (s := (a, b)) ha hb hp (by omega)
      refine ⟨_, rfl, δb, ?_⟩
      have s1 : dSet 8 (zV (dTup (dCons (dCall i__law_naming (dCons (dVar 0) (dCons (dVar 2) (dNil)))) (dCons (dCall i__law_naming (dCons (dVar 0) (dCons (dVar 2) (dNil)))) (dNil))))) ⟨callN (k + 4)⟩ [.val .draw, .val (eI most), .val (eI many), .val d, .no, .no, .no, .no, s8] δ = .ok (.nx [.val .draw, .val (eI most), .val (eI many), .val d, .no, .no, .no, .no, .val (eS (a, b))]) δb :=
        set_to (zv_to (tup_to (cons_to (call_to (cons_to (var_val rfl) (cons_to (var_val rfl) nil_to)) ea) (cons_to (call_to (cons_to (var_val rfl) (cons_to (var_val rfl) nil_to)) eb) nil_to)) two_line))
      have tt : dTst (dCall i__law_hangs (dCons (dIx (dPeek 8) (dC (.int 0))) (dCons (dIx (dPeek 8) (dC (.int 1))) (dNil)))) ⟨callN (k + 4)⟩ [.val .draw, .val (eI most), .val (eI many), .val d, .no, .no, .no, .no, .val (eS (a, b))] δb = .ok r δb := tst_to (call_to (cons_to (ix_to (peek_val rfl) c_to (ix0 (a, b))) (cons_to (ix_to (peek_val rfl) c_to (ix1 (a, b))) nil_to)) hr)
      cases r with
      | true => exact .inr ⟨eS (a, b), seq_to s1 (ifs_t tt (ret_to (var_val rfl))), (a, b), rfl, ⟨ha, hb, hp, h6, hiff.mp rfl⟩⟩
      | false => exact .inl ⟨_, seq_to s1 (ifs_nop tt), _, _, rfl⟩) ⟨_, _, rfl⟩
    have it : dRng1 (dC (.int 8)) ⟨callN (k + 4)⟩ [.val .draw, .val (eI most), .val (eI many), .no, .no, .no, .no, .no, .no] δ = .ok (rngD 0 8) δ := rng1_to (n := 8) c_to (by decide)
    rcases h with ⟨ρ', e, s3, s8, rfl⟩ | ⟨r, e, s, rfl, hs⟩
    · obtain ⟨a, δa, ha, _, ea⟩ := nm δ2
      obtain ⟨b, δb, hb, _, eb⟩ := nm δa
      have hs := Surf.rot hp h6 ha
      refine ⟨renS (rotS many 1, a) b, δb, hs.ren hb, seq_to ((dFor_to it).trans e) (seq_to (set_to (zv_to (fun1_to (bin_to (rg2_to (i := 1) (j := many) c_to (var_val rfl) (by decide) (by omega)) (lst_to (cons_to c_to nil_to) one_line) (e := .lst (rngD 1 ((many : Int) - 1).toNat ++ [.int 0])) ?_) (e := eN (rotS many 1)) ?_))) (ret_to (call_to (cons_to (tup_to (cons_to (var_val rfl) (cons_to (call_to (cons_to (var_val rfl) (cons_to (var_val rfl) nil_to)) ea) nil_to)) two_line) (cons_to (call_to (cons_to (var_val rfl) (cons_to (var_val rfl) nil_to)) eb) nil_to)) (sp_law_renamed (k := k + 2) (s := (rotS many 1, a)) hs.r hs.u hb (by omega)))))⟩
      · unfold binSem
        simp only
        rw [if_pos]
        rw [rng_len]
        exact Nat.le_trans (show ((many : Int) - 1).toNat + 1 ≤ 1000 by omega) (by decide)
      · rw [← rot_right hp h6]
        rfl
    · exact ⟨s, δ2, hs, seq_rt ((dFor_to it).trans e)⟩
  by_cases h4 : 4 < many
  · obtain ⟨j, δ2, hj, e2⟩ := sp_take (k := k + 2) (δ := δ1) (amount := 12) (by decide) (by decide)
    have tt : dAnd (dCmp .Gt (dPeek 2) (dC (.int 4))) (dCmp .Eq (dCall i__law_take (dCons (dVar 0) (dCons (dC (.int 12)) (dNil)))) (dC (.int 0))) ⟨callN (k + 4)⟩ [.val .draw, .val (eI most), .val (eI many), .no, .no, .no, .no, .no, .no] δ1 = .ok (decide (j = 0)) δ2 :=
      and_t (cmp_to (peek_val rfl) c_to (by show some (decide ((4 : Int) < many)) = _; rw [decide_eq_true (by omega)])) (cmp_to (call_to (cons_to (var_val rfl) (cons_to c_to nil_to)) e2) c_to (eq_len j 0))
    by_cases h : j = 0
    · rw [decide_eq_true h] at tt
      have hpk : ∃ s δ3, Surf many s ∧ dCall i__law_pick (dCons (dVar 0) (dCons (dIf (dCmp .Eq (dPeek 2) (dC (.int 5))) (dVar 5) (dVar 6)) (dNil))) ⟨callN (k + 4)⟩ [.val .draw, .val (eI most), .val (eI many), .no, .no, .val (.lst (own5.map eS)), .val (.lst (own6.map eS)), .no, .no] δ2 = .ok (eS s) δ3 := by
        have t5 : dCmp .Eq (dPeek 2) (dC (.int 5)) ⟨callN (k + 4)⟩ [.val .draw, .val (eI most), .val (eI many), .no, .no, .val (.lst (own5.map eS)), .val (.lst (own6.map eS)), .no, .no] δ2 = .ok (decide (many = 5)) δ2 := cmp_to (peek_val rfl) c_to (eq_len many 5)
        by_cases h5 : many = 5
        · rw [decide_eq_true h5] at t5
          obtain ⟨d, δ3, hd, e3⟩ := sp_pick (k := k + 1) (δ := δ2) (ds := own5.map eS) (by decide) (by decide)
          obtain ⟨s, hs, rfl⟩ := List.mem_map.mp hd
          exact ⟨s, δ3, by rw [h5]; exact own5_ok s hs, call_to (cons_to (var_val rfl) (cons_to (if_t t5 (var_val rfl)) nil_to)) e3⟩
        · rw [decide_eq_false h5] at t5
          obtain ⟨d, δ3, hd, e3⟩ := sp_pick (k := k + 1) (δ := δ2) (ds := own6.map eS) (by decide) (by decide)
          obtain ⟨s, hs, rfl⟩ := List.mem_map.mp hd
          exact ⟨s, δ3, by rw [show many = 6 by omega]; exact own6_ok s hs, call_to (cons_to (var_val rfl) (cons_to (if_f t5 (var_val rfl)) nil_to)) e3⟩
      obtain ⟨s, δ3, hs, e3⟩ := hpk
      obtain ⟨a, δ4, ha, _, e4⟩ := nm δ3
      refine ⟨many, renS s a, δ4, hle, hs.ren ha, run_rt rfl (by decide) (seq_to e1 (seq_rt (ifs_t tt (seq_to (ρ' := [.val .draw, .val (eI most), .val (eI many), .no, .no, .val (.lst (own5.map eS)), .no, .no, .no]) (δ1 := δ2) (by rfl) (seq_to (ρ' := [.val .draw, .val (eI most), .val (eI many), .no, .no, .val (.lst (own5.map eS)), .val (.lst (own6.map eS)), .no, .no]) (δ1 := δ2) (by rfl) (seq_to (set_to (zv_to e3)) (ret_to (call_to (cons_to (var_val rfl) (cons_to (call_to (cons_to (var_val rfl) (cons_to (var_val rfl) nil_to)) e4) nil_to)) (sp_law_renamed (k := k + 2) hs.r hs.u ha (by omega))))))))))⟩
    · rw [decide_eq_false h] at tt
      obtain ⟨s, δ3, hs, e3⟩ := tail δ2
      exact ⟨many, s, δ3, hle, hs, run_rt rfl (by decide) (seq_to e1 (seq_to (ifs_nop tt) e3))⟩
  · have tt : dAnd (dCmp .Gt (dPeek 2) (dC (.int 4))) (dCmp .Eq (dCall i__law_take (dCons (dVar 0) (dCons (dC (.int 12)) (dNil)))) (dC (.int 0))) ⟨callN (k + 4)⟩ [.val .draw, .val (eI most), .val (eI many), .no, .no, .no, .no, .no, .no] δ1 = .ok false δ1 :=
      and_f (cmp_to (peek_val rfl) c_to (by show some (decide ((4 : Int) < many)) = _; rw [decide_eq_false (by omega)]))
    obtain ⟨s, δ3, hs, e3⟩ := tail δ1
    exact ⟨many, s, δ3, hle, hs, run_rt rfl (by decide) (seq_to e1 (seq_to (ifs_nop tt) e3))⟩
end
end SG


set_option Elab.async false
set_option linter.all false
set_option maxRecDepth 100000
set_option maxHeartbeats 1000000
namespace SG
open PySem PySem.Spec L2
open PyProof.Rows hiding St
section
variable {δ : Dr} {k n m q : Nat} {s t : Nm × Nm} {C : Ctx}
/-! ### rows, likes, comparisons -/
theorem ne_eT (xs ys : List Nm) : cmpSem .NotEq (eT xs) (eT ys) = some (!decide (xs = ys)) := by
  unfold cmpSem
  have h : pl DP (eT xs) = true := pl_eNt _ xs
  have h2 : pl DP (eT ys) = true := pl_eNt _ ys
  simp only [h, h2, Bool.and_self, if_true]
  unfold eT
  rw [deq_tup, deqs_map deq_eN]
theorem ne_eO_same (o : Option Nm) : cmpSem .NotEq (eO o) (eO o) = some false := by
  cases o with
  | none => rfl
  | some f =>
    show cmpSem .NotEq (eN f) (eN f) = _
    unfold cmpSem
    have h : pl DP (eN f) = true := pl_eN _ f
    simp only [h, Bool.and_self, if_true, deq_eN]
    simp
/-- the surface of one square -/
def one1 : Nm × Nm := ([0], [0])
theorem one1_ok : Surf 1 one1 := Surf.rot (n := 1) (by decide) (by decide) (isN_of (by decide) (by decide) (by decide))
end
end SG


set_option Elab.async false
set_option linter.all false
set_option maxRecDepth 100000
set_option maxHeartbeats 1000000
namespace SG
open PySem PySem.Spec L2
open PyProof.Rows hiding St
/-! ### the kinds of what was told -/
mutual
def nc : D → Nat
  | .tup xs => 1 + ncs xs
  | .lst xs => 1 + ncs xs
  | _ => 1
def ncs : List D → Nat
  | [] => 0
  | x :: xs => nc x + ncs xs
end
theorem ncs_app : ∀ xs ys : List D, ncs (xs ++ ys) = ncs xs + ncs ys
  | [], ys => by unfold ncs; simp [ncs]
  | x :: xs, ys => by
    show nc x + ncs (xs ++ ys) = nc x + ncs xs + ncs ys
    rw [ncs_app xs ys]; omega
theorem nc_pos (d : D) : 1 ≤ nc d := by cases d <;> unfold nc <;> omega
theorem len_ncs : ∀ xs : List D, xs.length ≤ ncs xs
  | [] => Nat.zero_le _
  | x :: xs => by
    have := len_ncs xs
    have := nc_pos x
    show xs.length + 1 ≤ nc x + ncs xs
    omega
/-- plain, however deep -/
def Pl (d : D) : Prop := ∃ n, n < DP ∧ pl n d = true
theorem pl_mono (n : Nat) : (∀ d, pl n d = true → pl (n + 1) d = true) ∧ ∀ ds, pls n ds = true → pls (n + 1) ds = true := by
  have B : ∀ n, (∀ d, pl n d = true → pl (n + 1) d = true) → ∀ ds, pls n ds = true → pls (n + 1) ds = true := fun n A ds => by
    induction ds with
    | nil => exact fun _ => rfl
    | cons d ds ih =>
      intro h
      unfold pls at h ⊢
      simp only [Bool.and_eq_true] at h ⊢
      exact ⟨A d h.1, ih h.2⟩
  induction n with
  | zero =>
    have A : ∀ d, pl 0 d = true → pl 1 d = true := fun d h => by cases d <;> first | rfl | (simp [pl] at h; done)
    exact ⟨A, B 0 A⟩
  | succ n ih =>
    have A : ∀ d, pl (n + 1) d = true → pl (n + 1 + 1) d = true := fun d h => by
      cases d <;> first | rfl | (simp [pl] at h; done) | (unfold pl at h ⊢; exact ih.2 _ h)
    exact ⟨A, B _ A⟩
theorem pl_le {n m : Nat} (h : n ≤ m) {d : D} (hp : pl n d = true) : pl m d = true := by
  induction h with
  | refl => exact hp
  | step _ ih => exact (pl_mono _).1 d ih
theorem Pl.all {P : List D} (h : ∀ e ∈ P, Pl e) : pl DP (.lst P) = true := by
  have : pls (DP - 1) P = true := by
    induction P with
    | nil => rfl
    | cons d P ih =>
      unfold pls
      obtain ⟨n, hn, hp⟩ := h d List.mem_cons_self
      rw [pl_le (show n ≤ DP - 1 by omega) hp, ih fun e he => h e (List.mem_cons_of_mem _ he)]
      rfl
  show pl (DP - 1 + 1) (.lst P) = true
  exact this
def kindS : D → Str
  | .tup _ => "tuple"
  | .lst _ => "list"
  | .bl _ => "bool"
  | _ => "other"
def kids : D → List D
  | .tup xs => xs
  | .lst xs => xs
  | _ => []
theorem pls_mem : ∀ {n : Nat} {xs : List D}, pls n xs = true → ∀ d ∈ xs, pl n d = true
  | n, [], _, d, h => nomatch h
  | n, x :: xs, h, d, hd => by
    unfold pls at h
    simp only [Bool.and_eq_true] at h
    rcases List.mem_cons.mp hd with rfl | hd
    · exact h.1
    · exact pls_mem h.2 d hd
theorem Pl.kids {d : D} (h : Pl d) : ∀ e ∈ kids d, Pl e := fun e he => by
  obtain ⟨n, hn, h⟩ := h
  cases n with
  | zero => cases d <;> first | (simp [SG.kids] at he; done) | (simp [pl] at h; done)
  | succ n => cases d <;> first | (simp [SG.kids] at he; done) | exact ⟨n, by omega, pls_mem (by unfold pl at h; exact h) e he⟩
theorem nc_kids (d : D) : ncs (kids d) < nc d := by
  cases d <;> simp only [kids, nc, ncs] <;> omega
section
variable {δ : Dr} {k : Nat} {C : Ctx} {ρ : Sls}
theorem kind_to {e : D} (hp : Pl e) (h : ρ[3]? = some (.val e)) : dIf (dTst (dFun1 (sIsi ["tuple"]) (dPeek 3))) (dC (.str "tuple")) (dIf (dTst (dFun1 (sIsi ["list"]) (dPeek 3))) (dC (.str "list")) (dIf (dTst (dFun1 (sIsi ["dict"]) (dPeek 3))) (dC (.str "dict")) (dIf (dTst (dFun1 (sIsi ["bool"]) (dPeek 3))) (dC (.str "bool")) (dC (.str "other"))))) C ρ δ = .ok (.str (kindS e)) δ := by
  obtain ⟨n, _, hp⟩ := hp
  have t : ∀ T b, sIsi [T] e = some (.bl b) → dTst (dFun1 (sIsi [T]) (dPeek 3)) C ρ δ = .ok b δ := fun T b hb => tst_to (fun1_to (peek_val h) hb)
  cases e with
  | tup xs => exact if_t (t "tuple" true (by rfl)) c_to
  | lst xs => exact if_f (t "tuple" false (by rfl)) (if_t (t "list" true (by rfl)) c_to)
  | bl b => exact if_f (t "tuple" false (by rfl)) (if_f (t "list" false (by rfl)) (if_f (t "dict" false (by rfl)) (if_t (t "bool" true (by rfl)) c_to)))
  | non => exact if_f (t "tuple" false (by rfl)) (if_f (t "list" false (by rfl)) (if_f (t "dict" false (by rfl)) (if_f (t "bool" false (by rfl)) c_to)))
  | int i => exact if_f (t "tuple" false (by rfl)) (if_f (t "list" false (by rfl)) (if_f (t "dict" false (by rfl)) (if_f (t "bool" false (by rfl)) c_to)))
  | str z => exact if_f (t "tuple" false (by rfl)) (if_f (t "list" false (by rfl)) (if_f (t "dict" false (by rfl)) (if_f (t "bool" false (by rfl)) c_to)))
  | _ => cases n <;> (unfold pl at hp; cases hp)
def tcB (e : D) : Bool := match e with
  | .tup _ => true
  | .lst _ => true
  | _ => false
theorem in_kinds {e : D} (hp : Pl e) : cmpSem .In (.str (kindS e)) (.lst [.str "tuple", .str "list"]) = some (tcB e) := by
  obtain ⟨n, _, hp⟩ := hp
  cases e <;> first | (simp only [kindS, tcB]; decide +kernel) | (cases n <;> (unfold pl at hp; cases hp))
theorem no_dict {e : D} : cmpSem .Eq (.str (kindS e)) (.str "dict") = some false := by
  cases e <;> (simp only [kindS]; decide +kernel)
theorem list_kids {e : D} (h : tcB e = true) : sList e = some (.lst (kids e)) := by
  cases e <;> first | rfl | cases h
theorem leaf_kids {e : D} (h : tcB e = false) : kids e = [] := by
  cases e <;> first | rfl | cases h
def strL (ks : List Str) : D := .lst (ks.map D.str)
theorem sp_kinds {d : D} (hp : Pl d) (hl : nc d < LINE) : ∃ ks : List Str, callN (k + 1) i__law_kinds [d] δ = .ok (strL ks) δ := by
  rw [cn__law_kinds]
  let I : Sls → Dr → Prop := fun ρ δ' => δ' = δ ∧ ∃ ks P s3 s4, ρ = [.val d, .own (strL ks), .own (.lst P), s3, s4, .no, .no, .no] ∧ (∀ e ∈ P, Pl e) ∧ ks.length + ncs P ≤ nc d
  let J : Sls → Dr → Prop := fun ρ δ' => δ' = δ ∧ ∃ ks s3 s4, ρ = [.val d, .own (strL ks), .own (.lst []), s3, s4, .no, .no, .no]
  have ne : ∀ P : List D, (∀ e ∈ P, Pl e) → cmpSem .NotEq (.lst P) (.lst []) = some (!decide (P = [])) := fun P h => by
    unfold cmpSem
    have h2 : pl DP (.lst []) = true := rfl
    simp only [Pl.all h, h2, Bool.and_self, if_true, deq_lst]
    cases P <;> simp [deqs]
  obtain ⟨ρ', δ', e1, e2, ks, s3, s4, e3⟩ := while_inv (C := ⟨callN k⟩) (t := dCmp .NotEq (dPeek 2) (dLst (dNil))) (b := dSeq (dSetM 3 (dPop 2)) (dSeq (dSet 4 (zV (dIf (dTst (dFun1 (sIsi ["tuple"]) (dPeek 3))) (dC (.str "tuple")) (dIf (dTst (dFun1 (sIsi ["list"]) (dPeek 3))) (dC (.str "list")) (dIf (dTst (dFun1 (sIsi ["dict"]) (dPeek 3))) (dC (.str "dict")) (dIf (dTst (dFun1 (sIsi ["bool"]) (dPeek 3))) (dC (.str "bool")) (dC (.str "other")))))))) (dSeq (dApp 1 (mV (dVar 4))) (dSeq (dIfS (dCmp .In (dPeek 4) (dLst (dCons (dC (.str "tuple")) (dCons (dC (.str "list")) (dNil))))) (dSet 2 (zO (dCat (dPeek 2) (dFun1 sList (dPeek 3))))) (dNop)) (dIfS (dCmp .Eq (dPeek 4) (dC (.str "dict"))) (dFail) (dNop))))))
    I J (fun ρ => match ρ[2]? with | some (Sl.own (D.lst qs)) => ncs qs | _ => 0) (fun ρ δ' hI => by
    obtain ⟨rfl, ks, P, s3, s4, rfl, hP, hle⟩ := hI
    have tt : dCmp .NotEq (dPeek 2) (dLst (dNil)) ⟨callN k⟩ [.val d, .own (strL ks), .own (.lst P), s3, s4, .no, .no, .no] δ' = .ok (!decide (P = [])) δ' := cmp_to (peek_own rfl) (lst_to nil_to (by decide)) (ne P hP)
    rcases List.eq_nil_or_concat P with rfl | ⟨P', e, rfl⟩
    · exact .inl ⟨tt, rfl, ks, s3, s4, rfl⟩
    · rw [List.concat_eq_append] at *
      refine .inr ⟨by rw [tt]; simp, ?_⟩
      have he : Pl e := hP e (by simp)
      rw [ncs_app] at hle
      have hle : ks.length + (ncs P' + (nc e + 0)) ≤ nc d := hle
      have hpop := popL_to (ρ := [.val d, .own (strL ks), .own (.lst (P' ++ [e])), s3, s4, .no, .no, .no]) (i := 2) (ds := P') (d := e) rfl
      have hc1 := nc_pos e
      have hk := nc_kids e
      have l1 := len_ncs P'
      have l2 := len_ncs (kids e)
      have happ : appL [.val d, .own (strL ks), .own (.lst P'), .val e, .val (.str (kindS e)), .no, .no, .no] 1 (.str (kindS e)) = some [.val d, .own (strL (ks ++ [kindS e])), .own (.lst P'), .val e, .val (.str (kindS e)), .no, .no, .no] := by
        have := appL_to (ρ := [.val d, .own (strL ks), .own (.lst P'), .val e, .val (.str (kindS e)), .no, .no, .no]) (i := 1) (ds := ks.map D.str) (d := .str (kindS e)) rfl (by rw [List.length_map]; omega)
        rw [this]
        unfold strL
        rw [List.map_append]
        rfl
      have tin : dCmp .In (dPeek 4) (dLst (dCons (dC (.str "tuple")) (dCons (dC (.str "list")) (dNil)))) ⟨callN k⟩ [.val d, .own (strL (ks ++ [kindS e])), .own (.lst P'), .val e, .val (.str (kindS e)), .no, .no, .no] δ' = .ok (tcB e) δ' := cmp_to (peek_val rfl) (lst_to (cons_to c_to (cons_to c_to nil_to)) two_line) (in_kinds he)
      have step : ∃ Q, ncs Q = ncs P' + ncs (kids e) ∧ (∀ x ∈ Q, Pl x) ∧ dIfS (dCmp .In (dPeek 4) (dLst (dCons (dC (.str "tuple")) (dCons (dC (.str "list")) (dNil))))) (dSet 2 (zO (dCat (dPeek 2) (dFun1 sList (dPeek 3))))) (dNop) ⟨callN k⟩ [.val d, .own (strL (ks ++ [kindS e])), .own (.lst P'), .val e, .val (.str (kindS e)), .no, .no, .no] δ' = .ok (.nx [.val d, .own (strL (ks ++ [kindS e])), .own (.lst Q), .val e, .val (.str (kindS e)), .no, .no, .no]) δ' := by
        cases hb : tcB e with
        | true =>
          rw [hb] at tin
          refine ⟨P' ++ kids e, ncs_app _ _, fun x hx => (List.mem_append.mp hx).elim (fun h => hP x (List.mem_append_left _ h)) (he.kids x), ifs_t tin (set_to (zo_to (fun2_to (peek_own rfl) (fun1_to (peek_val rfl) (list_kids hb)) ?_)))⟩
          show (if P'.length + (kids e).length ≤ LINE then some (D.lst (P' ++ kids e)) else none) = _
          rw [if_pos (by omega)]
        | false =>
          rw [hb] at tin
          exact ⟨P', by rw [leaf_kids hb]; rfl, fun x hx => hP x (List.mem_append_left _ hx), ifs_nop tin⟩
      obtain ⟨Q, q1, q2, q3⟩ := step
      refine ⟨_, δ', seq_to (setm_to (pop_to hpop)) (seq_to (set_to (zv_to (kind_to he rfl))) (seq_to (app_to rfl (mv_to (var_val rfl)) happ) (seq_to q3 (ifs_nop (cmp_to (peek_val rfl) c_to no_dict))))), ⟨rfl, _, Q, .val e, .val (.str (kindS e)), rfl, q2, by rw [List.length_append]; show ks.length + 1 + _ ≤ _; omega⟩, ?_⟩
      show ncs Q < ncs (P' ++ [e])
      rw [ncs_app]
      show ncs Q < ncs P' + (nc e + 0)
      omega) (ρ := [.val d, .own (strL []), .own (.lst [d]), .no, .no, .no, .no, .no]) (δ := δ) ⟨rfl, [], [d], .no, .no, rfl, fun e he => by rw [List.mem_singleton.mp he]; exact hp, by show 0 + (nc d + 0) ≤ _; omega⟩
  subst e2
  subst e3
  exact ⟨ks, run_rt rfl (by decide) (seq_to (par2_to (zo_to (lst_to nil_to (by decide))) (zo_to (lst_to (cons_to (var_val rfl) nil_to) one_line)) ⟨show 1 < 8 by decide, show 2 < 8 by decide, by decide⟩) (seq_to e1 (esc_to (ret_to (var_val rfl)))))⟩
theorem deq_refl_aux (n : Nat) : (∀ d, pl n d = true → deq d d = true) ∧ ∀ ds, pls n ds = true → deqs ds ds = true := by
  have B : ∀ n, (∀ d, pl n d = true → deq d d = true) → ∀ ds, pls n ds = true → deqs ds ds = true := fun n A ds => by
    induction ds with
    | nil => exact fun _ => rfl
    | cons d ds ih =>
      intro h
      unfold pls at h
      simp only [Bool.and_eq_true] at h
      unfold deqs
      rw [A d h.1, ih h.2]
      rfl
  have leaf : ∀ d : D, (∀ xs, d ≠ .tup xs) → (∀ xs, d ≠ .lst xs) → (∃ n, pl n d = true) → deq d d = true := fun d h1 h2 ⟨n, h⟩ => by
    cases d with
    | tup xs => exact (h1 _ rfl).elim
    | lst xs => exact (h2 _ rfl).elim
    | int i => rw [deq_ii]; simp
    | non => rfl
    | bl b => cases b <;> rfl
    | str z => unfold deq toPy PyData.eqv; simp
    | _ => cases n <;> simp [pl] at h
  induction n with
  | zero =>
    have A : ∀ d, pl 0 d = true → deq d d = true := fun d h => leaf d (fun xs e => by subst e; simp [pl] at h) (fun xs e => by subst e; simp [pl] at h) ⟨0, h⟩
    exact ⟨A, B 0 A⟩
  | succ n ih =>
    have A : ∀ d, pl (n + 1) d = true → deq d d = true := fun d h => by
      cases d with
      | tup xs => rw [deq_tup]; exact ih.2 xs (by unfold pl at h; exact h)
      | lst xs => rw [deq_lst]; exact ih.2 xs (by unfold pl at h; exact h)
      | _ => exact leaf _ (fun _ e => nomatch e) (fun _ e => nomatch e) ⟨n + 1, h⟩
    exact ⟨A, B _ A⟩
theorem Pl.refl {d : D} (h : Pl d) : cmpSem .Eq d d = some true := by
  obtain ⟨n, hn, hp⟩ := h
  have h1 : pl DP d = true := pl_le (by omega) hp
  unfold cmpSem
  simp only [h1, Bool.and_self, if_true]
  rw [(deq_refl_aux n).1 d hp]
theorem pl_strL (ks : List Str) : Pl (strL ks) := ⟨1, by decide, by
  unfold strL pl
  exact pls_map (fun _ => rfl) ks⟩
/-- what is told is what is due, kinds too -/
theorem sp_says {d : D} (hp : Pl d) (hl : nc d < LINE) : callN (k + 2) i__law_says [d, d] δ = .ok (.bl true) δ := by
  rw [cn__law_says]
  obtain ⟨ks, e⟩ := sp_kinds (k := k) (δ := δ) hp hl
  exact run_rt rfl (by decide) (ret_to (andV_t (bl_to (cmp_to (peek_val rfl) (peek_val rfl) hp.refl)) (bl_to (cmp_to (call_to (cons_to (var_val rfl) nil_to) e) (call_to (cons_to (var_val rfl) nil_to) e) (pl_strL ks).refl))))
end
end SG


set_option Elab.async false
set_option linter.all false
set_option maxRecDepth 100000
set_option maxHeartbeats 1000000
namespace SG
open PySem PySem.Spec L2
open PyProof.Rows hiding St
/-! ### what is no surface -/
section
variable {δ : Dr} {k n : Nat} {C : Ctx}
def sortB (n : Nat) (a : Nm) : Bool := decide ((a.mergeSort fun i j => decide (i ≤ j)) = List.range n)
theorem sortB_false {x : Nat} {a : Nm} (hx : x < n) (h : x ∉ a) : sortB n a = false := decide_eq_false fun e => h ((List.mergeSort_perm a _).mem_iff.mp (by rw [e]; exact List.mem_range.mpr hx))
/-- is_naming of ints, whatever they are -/
theorem sp_naming_of {a : Nm} (h : a.length = n) (hn : n ≤ 1000) : callN (k + 2) i_is_naming [eI n, eN a] δ = .ok (.bl (sortB n a)) δ := by
  rw [cn_is_naming]
  have hl : a.length ≤ LINE := small_line (by omega)
  refine run_rt rfl (by decide) (seq_to (ifs_nop (δ1 := δ) ?_) ?_)
  · refine or_f (not_to (b := true) (tst_to (fun1_to (peek_val rfl) (by rfl)))) (or_f (cmp_to (fun1_to (peek_val rfl) (len_eN a)) (peek_val rfl) (b := false) ?_) (not_to (b := true) (tst_to (fun1_to (lc_all (it_to (peek_val rfl) (it_eN a)) rfl (by rw [List.length_map]; exact hl) (y := fun _ => .bl true) ?_) ?_))))
    · rw [ne_len, h]; simp
    · intro d hd
      obtain ⟨i, _, rfl⟩ := List.mem_map.mp hd
      exact ⟨_, rfl, fun δ => call_to (cons_to (var_val rfl) nil_to) (sp_is_number (k := k) (i : Int))⟩
    · exact all_yes fun _ _ => rfl
  · refine ret_to (bl_to (cmp_to (fun1_to (peek_val rfl) (e := .lst ((a.mergeSort fun i j => decide (i ≤ j)).map eI)) ?_) (rg1_to (n := n) (var_val rfl) (by omega)) ?_))
    · show (sortD (a.map eI)).map D.lst = _
      rw [sortD_eI hl]; rfl
    · unfold cmpSem
      have h1 : ∀ xs : List Nat, pl DP (.lst (xs.map eI)) = true := fun xs => by unfold pl; exact pls_map (pl_eI _) _
      simp only [rng_eI, h1, Bool.and_self, if_true, deq_lst, deqs_map deq_eI]
      rfl
/-- of another length -/
theorem sp_naming_len {a : Nm} (h : a.length ≠ n) : callN (k + 1) i_is_naming [eI n, eN a] δ = .ok (.bl false) δ := by
  rw [cn_is_naming]
  refine run_rt rfl (by decide) (seq_rt (ifs_t (or_f (not_to (b := true) (tst_to (fun1_to (peek_val rfl) (by rfl)))) (or_t (cmp_to (fun1_to (peek_val rfl) (len_eN a)) (peek_val rfl) ?_))) (ret_to c_to)))
  rw [ne_len, decide_eq_false h]; rfl
/-- no tuple -/
theorem sp_naming_lst {x : D} {ds : List D} : callN (k + 1) i_is_naming [x, .lst ds] δ = .ok (.bl false) δ := by
  rw [cn_is_naming]
  exact run_rt rfl (by decide) (seq_rt (ifs_t (or_t (not_to (b := false) (tst_to (fun1_to (peek_val rfl) (by rfl))))) (ret_to c_to)))
theorem sp_number_bl {b : Bool} : callN (k + 1) i_is_number [.bl b] δ = .ok (.bl false) δ := by
  rw [cn_is_number]
  exact run_rt rfl (by decide) (ret_to (andV_t (fun1_to (peek_val rfl) (by rfl)) (notV_to (b := true) (fun1_to (peek_val rfl) (by rfl)))))
theorem sp_naming_true : callN (k + 2) i_is_naming [eI 1, .tup [.bl true]] δ = .ok (.bl false) δ := by
  rw [cn_is_naming]
  refine run_rt rfl (by decide) (seq_rt (ifs_t (or_f (not_to (b := true) (tst_to (fun1_to (peek_val rfl) (by rfl)))) (or_f (cmp_to (b := false) (fun1_to (peek_val rfl) (e := eI 1) (by rfl)) (peek_val rfl) (by rw [ne_len]; rfl)) (not_to (b := false) (tst_to (fun1_to (lc_all (ds := [.bl true]) (it_to (peek_val rfl) (by rfl)) rfl one_line (y := fun _ => .bl false) ?_) (by rfl)))))) (ret_to c_to)))
  intro d hd
  rw [List.mem_singleton.mp hd]
  exact ⟨_, rfl, fun δ => call_to (cons_to (var_val rfl) nil_to) (sp_number_bl (k := k))⟩
/-- no tuple at all -/
theorem bad_type {d : D} (h : sIsi ["tuple"] d = some (.bl false)) : callN (k + 1) i_is_surface_of [d] δ = .ok (.bl false) δ := by
  rw [cn_is_surface_of]
  exact run_rt rfl (by decide) (seq_rt (ifs_t (or_t (not_to (b := false) (tst_to (fun1_to (peek_val rfl) h)))) (ret_to c_to)))
/-- not of two -/
theorem bad_len {ds : List D} (h : ds.length ≠ 2) : callN (k + 1) i_is_surface_of [.tup ds] δ = .ok (.bl false) δ := by
  rw [cn_is_surface_of]
  refine run_rt rfl (by decide) (seq_rt (ifs_t (or_f (not_to (b := true) (tst_to (fun1_to (peek_val rfl) (by rfl)))) (or_t (cmp_to (fun1_to (peek_val rfl) (e := eI ds.length) rfl) c_to ?_))) (ret_to c_to)))
  have := ne_len ds.length 2
  rw [decide_eq_false h] at this
  exact this
/-- two, the first a tuple -/
theorem two_head {xs : List D} {y : D} {q : Res Fl} (h : c_is_surface_of = c_is_surface_of) {rest : DS} (hr : rest ⟨callN k⟩ [.val (.tup [.tup xs, y]), .val (eI xs.length)] δ = q) :
    dSeq (dIfS (dOr (dNot (dTst (dFun1 (sIsi ["tuple"]) (dPeek 0)))) (dOr (dCmp .NotEq (dFun1 sLen (dPeek 0)) (dC (.int 2))) (dNot (dTst (dFun1 (sIsi ["tuple"]) (dIx (dPeek 0) (dC (.int 0)))))))) (dRet (dC (.bl false))) (dNop)) (dSeq (dSet 1 (zV (dFun1 sLen (dIx (dPeek 0) (dC (.int 0)))))) rest) ⟨callN k⟩ [.val (.tup [.tup xs, y]), .no] δ = q := by
  have i0 : ixSem (.tup [.tup xs, y]) (.int 0) = some (.tup xs) := rfl
  exact seq_to (ifs_nop (δ1 := δ) (or_f (not_to (b := true) (tst_to (fun1_to (peek_val rfl) (by rfl)))) (or_f (cmp_to (b := false) (fun1_to (peek_val rfl) (e := eI 2) rfl) c_to (by rfl)) (not_to (b := true) (tst_to (fun1_to (ix_to (peek_val rfl) c_to i0) (by rfl))))))) (seq_to (set_to (zv_to (fun1_to (ix_to (peek_val rfl) c_to i0) rfl))) hr)
/-- too few or too many squares -/
theorem bad_many {xs : List D} {y : D} (h : xs.length = 0 ∨ 6 < xs.length) : callN (k + 1) i_is_surface_of [.tup [.tup xs, y]] δ = .ok (.bl false) δ := by
  rw [cn_is_surface_of]
  refine run_rt rfl (by decide) (two_head rfl (seq_rt (ifs_t (or_t (not_to (b := false) ?_)) (ret_to c_to))))
  rcases h with h | h
  · rw [h]
    exact chain_f c_to (peek_val rfl) (by rfl)
  · refine chain_t c_to (peek_val rfl) (y := eI xs.length) ?_ c_to ?_
    · show some (decide ((1 : Int) ≤ xs.length)) = _
      rw [decide_eq_true (by omega)]
    · show some (decide ((xs.length : Int) ≤ 6)) = _
      rw [decide_eq_false (by omega)]
/-- the namings judged -/
theorem bad_naming {xs : List D} {y : D} {b1 : Bool} (h1 : 1 ≤ xs.length) (h2 : xs.length ≤ 6) (e1 : callN k i_is_naming [eI xs.length, .tup xs] δ = .ok (.bl b1) δ) (e2 : b1 = true → callN k i_is_naming [eI xs.length, y] δ = .ok (.bl false) δ) : callN (k + 1) i_is_surface_of [.tup [.tup xs, y]] δ = .ok (.bl false) δ := by
  rw [cn_is_surface_of]
  have i0 : ixSem (.tup [.tup xs, y]) (.int 0) = some (.tup xs) := rfl
  have i1 : ixSem (.tup [.tup xs, y]) (.int 1) = some y := rfl
  have ch : dChain .LtE .LtE (dC (.int 1)) (dPeek 1) (dC (.int 6)) ⟨callN k⟩ [.val (.tup [.tup xs, y]), .val (eI xs.length)] δ = .ok true δ := by
    refine chain_t c_to (peek_val rfl) (y := eI xs.length) ?_ c_to ?_
    · show some (decide ((1 : Int) ≤ xs.length)) = _
      rw [decide_eq_true (by omega)]
    · show some (decide ((xs.length : Int) ≤ 6)) = _
      rw [decide_eq_true (by omega)]
  refine run_rt rfl (by decide) (two_head rfl (seq_rt (ifs_t (or_f (not_to ch) ?_) (ret_to c_to))))
  cases b1 with
  | false => exact or_t (not_to (b := false) (tst_to (call_to (cons_to (var_val rfl) (cons_to (ix_to (peek_val rfl) c_to i0) nil_to)) e1)))
  | true => exact or_f (not_to (b := true) (tst_to (call_to (cons_to (var_val rfl) (cons_to (ix_to (peek_val rfl) c_to i0) nil_to)) e1))) (not_to (b := false) (tst_to (call_to (cons_to (var_val rfl) (cons_to (ix_to (peek_val rfl) c_to i1) nil_to)) (e2 rfl))))
def t0 : D := .tup [.int 0]
def badL : List D := [.non, .int 0, .tup [], .tup [t0], .tup [.tup [.int 0, .int 1], .tup [.int 0, .int 1]], .tup [.tup [.int 1, .int 0], t0], .lst [t0, t0], .tup [t0, .lst [.int 0]], .tup [.tup [.int 0, .int 0], .tup [.int 1, .int 0]], .tup [.tup [.int 1, .int 2], .tup [.int 1, .int 2]], .tup [.tup [.bl true], t0], .str "00"]
def badM : List D := [.tup [eN [1, 2, 3, 4, 5, 6, 0], .tup (rngD 0 7)], .tup [.tup [], .tup []], .tup [t0, t0, t0]]
/-- both namings, but square 1 is not reached -/
theorem bad_apart : callN (k + 3) i_is_surface_of [.tup [.tup [.int 0, .int 1], .tup [.int 0, .int 1]]] δ = .ok (.bl false) δ := by
  have hid : IsN 2 [0, 1] := isN_of (by decide) (by decide) (by decide)
  obtain ⟨L, f, hc⟩ := sp_reached (k := k + 1) (δ := δ) (n := 2) (s := ([0, 1], [0, 1])) hid hid (by decide) (by decide)
  have hl : L.length ≠ 2 := fun h => by
    have := f.conn_iff.mp h (· = 0) rfl (fun i hi e => by
      have e : i = 0 := e
      subst e
      exact ⟨rfl, rfl⟩) 1 (by decide)
    exact absurd this (by decide)
  have i0 : ixSem (.tup [.tup [.int 0, .int 1], .tup [.int 0, .int 1]]) (.int 0) = some (eN [0, 1]) := rfl
  have i1 : ixSem (.tup [.tup [.int 0, .int 1], .tup [.int 0, .int 1]]) (.int 1) = some (eN [0, 1]) := rfl
  rw [cn_is_surface_of]
  refine run_rt rfl (by decide) (two_head rfl (seq_to (ifs_nop (δ1 := δ) (or_f (not_to (b := true) (chain_t c_to (peek_val rfl) (y := eI 2) (by rfl) c_to (by rfl))) (or_f (not_to (b := true) (tst_to (call_to (cons_to (var_val rfl) (cons_to (ix_to (peek_val rfl) c_to i0) nil_to)) (sp_is_naming (k := k) hid (by decide))))) (not_to (b := true) (tst_to (call_to (cons_to (var_val rfl) (cons_to (ix_to (peek_val rfl) c_to i1) nil_to)) (sp_is_naming (k := k) hid (by decide))))))))
    (ret_to (bl_to (cmp_to (fun1_to (call_to (cons_to (ix_to (peek_val rfl) c_to i0) (cons_to (ix_to (peek_val rfl) c_to i1) nil_to)) hc) (e := eI L.length) ?_) (peek_val rfl) ?_)))))
  · unfold seenD sLen
    simp only [kd_len, List.length_map]
  · show cmpSem .Eq (eI L.length) (eI 2) = _
    rw [eq_len, decide_eq_false hl]
theorem bad_all : ∀ d ∈ badL ++ badM, callN (k + 3) i_is_surface_of [d] δ = .ok (.bl false) δ := fun d hd => by
  simp only [badL, badM, List.cons_append, List.nil_append, List.mem_cons, List.not_mem_nil, or_false] at hd
  have one : callN (k + 2) i_is_naming [eI 1, t0] δ = .ok (.bl (sortB 1 [0])) δ := sp_naming_of (a := [0]) rfl (by decide)
  rcases hd with rfl | rfl | rfl | rfl | rfl | rfl | rfl | rfl | rfl | rfl | rfl | rfl | rfl | rfl | rfl
  · exact bad_type (by rfl)
  · exact bad_type (by rfl)
  · exact bad_len (by decide)
  · exact bad_len (by decide)
  · exact bad_apart
  · exact bad_naming (by decide) (by decide) (sp_naming_of (a := [1, 0]) rfl (by decide)) fun _ => sp_naming_len (a := [0]) (by decide)
  · exact bad_type (by rfl)
  · exact bad_naming (by decide) (by decide) one fun _ => sp_naming_lst
  · exact bad_naming (b1 := false) (by decide) (by decide) (by have := sp_naming_of (k := k) (δ := δ) (a := [0, 0]) (n := 2) rfl (by decide); rwa [show sortB 2 [0, 0] = false from sortB_false (x := 1) (by decide) (by decide)] at this) fun z => nomatch z
  · exact bad_naming (b1 := false) (by decide) (by decide) (by have := sp_naming_of (k := k) (δ := δ) (a := [1, 2]) (n := 2) rfl (by decide); rwa [show sortB 2 [1, 2] = false from sortB_false (x := 0) (by decide) (by decide)] at this) fun z => nomatch z
  · exact bad_naming (b1 := false) (by decide) (by decide) sp_naming_true fun z => nomatch z
  · exact bad_type (by rfl)
  · exact bad_many (.inr (by decide))
  · exact bad_many (.inl rfl)
  · exact bad_len (by decide)
theorem sp_no_surface : ∃ d δ', d ∈ badL ++ badM ∧ callN (k + 4) i__law_no_surface [.draw] δ = .ok d δ' := by
  obtain ⟨d, δ', hd, e⟩ := sp_pick (k := k) (δ := δ) (ds := badL ++ badM) (by decide) (by decide)
  rw [cn__law_no_surface]
  refine ⟨d, δ', hd, run_rt rfl (by decide) (seq_to (ρ' := [.val .draw, .val (.lst badL)]) (δ1 := δ) (by rfl) (ret_to (call_to (cons_to (var_val rfl) (cons_to (bin_to (peek_val rfl) (lst_to (cons_to (tup_to (cons_to (fun1_to (lst_to (cons_to c_to (cons_to c_to (cons_to c_to (cons_to c_to (cons_to c_to (cons_to c_to (cons_to c_to nil_to))))))) (show 7 ≤ LINE by decide)) (e := eN [1, 2, 3, 4, 5, 6, 0]) (by rfl)) (cons_to (rg1_to (n := 7) c_to (by decide)) nil_to)) two_line) (cons_to (tup_to (cons_to (tup_to nil_to (by decide)) (cons_to (tup_to nil_to (by decide)) nil_to)) two_line) (cons_to (tup_to (cons_to (tup_to (cons_to c_to nil_to) one_line) (cons_to (tup_to (cons_to c_to nil_to) one_line) (cons_to (tup_to (cons_to c_to nil_to) one_line) nil_to))) (show 3 ≤ LINE by decide)) nil_to))) (show 3 ≤ LINE by decide)) (e := .lst (badL ++ badM)) ?_) nil_to)) e)))⟩
  show (if badL.length + 3 ≤ LINE then some (D.lst (badL ++ _)) else none) = _
  rw [if_pos (show badL.length + 3 ≤ LINE by decide)]
  rfl
end
end SG


set_option Elab.async false
set_option linter.all false
set_option maxRecDepth 100000
set_option maxHeartbeats 1000000
namespace SG
open PySem PySem.Spec L2
open PyProof.Rows hiding St
/-! ### exceptions -/
section
variable {δ δ1 : Dr} {k n : Nat} {C : Ctx} {ρ : Sls} {m : Type} {c : Nat}
theorem bind_exc {α β : Type} {m : M α} {f : α → M β} {as : List D} (h : m δ = .exc c as δ1) : (m >>= f) δ = .exc c as δ1 := by rw [bind_eq, h]
theorem call_exc {i : Nat} {r : DA} {ds : List D} {δ2 : Dr} (h : r C ρ δ = .ok ds δ1) (h2 : C.call i ds δ1 = .exc c [] δ2) : dCall i r C ρ δ = .exc c [] δ2 := by unfold dCall; rw [bind_to h]; exact h2
theorem drop_exc {t : DE} (h : t C ρ δ = .exc c [] δ1) : dDrop t C ρ δ = .exc c [] δ1 := by unfold dDrop; exact bind_exc h
theorem seq_exc {a b : DS} (h : a C ρ δ = .exc c [] δ1) : dSeq a b C ρ δ = .exc c [] δ1 := by unfold dSeq; exact bind_exc h
theorem run_exc {n p : Nat} {s : DS} {ds : List D} (hp : ds.length = p) (hn : p ≤ n) (h : s C (ds.map Sl.val ++ List.replicate (n - ds.length) .no) δ = .exc c [] δ1) : runF n p s C ds δ = .exc c [] δ1 := by
  unfold runF; rw [if_pos ⟨hp, hn⟩, h]
theorem ifs_exc {u : DT} {a b : DS} (h : u C ρ δ = .ok true δ1) {δ2 : Dr} (h2 : a C ρ δ1 = .exc c [] δ2) : dIfS u a b C ρ δ = .exc c [] δ2 := by unfold dIfS; rw [bind_to h]; exact h2
theorem raise_exc : dRaise c C ρ δ = .exc c [] δ := rfl
theorem caught_exc {t : DE} (h : t C ρ δ = .exc c [] δ1) : dCaught t C ρ δ = .ok (.exn c []) δ1 := by unfold dCaught; rw [h]
theorem sp_need_bad {d : D} (h : d ∈ badL ++ badM) : callN (k + 4) i_need_surface [d] δ = .exc x_BadSurface [] δ := by
  rw [cn_need_surface]
  exact run_exc rfl (by decide) (ifs_exc (not_to (b := false) (tst_to (call_to (cons_to (var_val rfl) nil_to) (bad_all (k := k) d h)))) raise_exc)
end
end SG


set_option Elab.async false
set_option linter.all false
set_option maxRecDepth 100000
set_option maxHeartbeats 4000000
namespace SG
open PySem PySem.Spec L2
open PyProof.Rows hiding St
/-! ### the order of namings and of surfaces -/
theorem toPys_eI (a : Nm) : toPys (a.map eI) = (a.map fun i : Nat => (i : Int)).map PyData.int := by
  rw [toPys_map, List.map_map, List.map_map]
  rfl
theorem cast_lt : ∀ a b : Nm, (a.map fun i : Nat => (i : Int)) < (b.map fun i : Nat => (i : Int)) ↔ a < b
  | [], [] => by simp
  | [], y :: ys => by simp
  | x :: xs, [] => by simp
  | x :: xs, y :: ys => by
    simp only [List.map_cons, List.cons_lt_cons_iff, cast_lt xs ys, Int.ofNat_lt, Int.natCast_inj]
theorem dlt_eN (a b : Nm) : dlt (eN a) (eN b) = decide (a < b) := by
  show PySem.W.dataLt (.tuple (toPys (a.map eI))) (.tuple (toPys (b.map eI))) = _
  rw [toPys_eI, toPys_eI, PySem.W.dataLt_tuple]
  have := PySem.W.dataLt_ints (a.map fun i : Nat => (i : Int)) (b.map fun i : Nat => (i : Int))
  unfold PySem.W.rowLt at this
  rw [this]
  exact decide_eq_decide.mpr (cast_lt a b)
theorem leN_eq (a b : Nm) : leN a b = decide (a ≤ b) := by
  show (!dlt (eN b) (eN a)) = _
  rw [dlt_eN]
  by_cases h : b < a
  · rw [decide_eq_true h, decide_eq_false (by rw [List.not_le]; exact h)]; rfl
  · rw [decide_eq_false h, decide_eq_true (List.not_lt.mp h)]; rfl
theorem leN_total (a b : Nm) : (leN a b || leN b a) = true := by
  rw [leN_eq, leN_eq]
  rcases List.le_total a b with h | h <;> simp [h]
theorem leN_trans (a b c : Nm) (h : leN a b = true) (k : leN b c = true) : leN a c = true := by
  rw [leN_eq, decide_eq_true_eq] at *
  exact List.le_trans h k
theorem leN_anti {a b : Nm} (h : leN a b = true) (k : leN b a = true) : a = b := by
  rw [leN_eq, decide_eq_true_eq] at *
  exact List.le_antisymm h k
theorem srt_perm {xs ys : List Nm} (h : xs.Perm ys) : srt xs = srt ys := by
  refine List.Perm.eq_of_pairwise (le := fun a b => leN a b = true) (fun a b _ _ h k => leN_anti h k) ?_ ?_ ?_
  · exact List.pairwise_mergeSort (fun a b c => leN_trans a b c) leN_total xs
  · exact List.pairwise_mergeSort (fun a b c => leN_trans a b c) leN_total ys
  · exact (List.mergeSort_perm xs _).trans (h.trans (List.mergeSort_perm ys _).symm)
theorem srt_mem {xs : List Nm} {a : Nm} : a ∈ srt xs ↔ a ∈ xs := (List.mergeSort_perm xs _).mem_iff
theorem srt_len (xs : List Nm) : (srt xs).length = xs.length := (List.mergeSort_perm xs _).length_eq
theorem srt_of {xs ys : List Nm} (nx : xs.Nodup) (ny : ys.Nodup) (h : ∀ a, a ∈ xs ↔ a ∈ ys) : srt xs = srt ys := srt_perm ((List.perm_ext_iff_of_nodup nx ny).mpr h)
/-- a list that is sorted already is its own -/
theorem srt_is {xs ys : List Nm} (nx : xs.Nodup) (ny : ys.Pairwise (· < ·)) (h : ∀ a, a ∈ xs ↔ a ∈ ys) : srt xs = ys := by
  have nd : ys.Nodup := ny.imp fun h e => by subst e; exact absurd h (List.lt_irrefl _)
  rw [srt_of nx nd h]
  refine List.mergeSort_of_pairwise (ny.imp fun h => ?_)
  rw [leN_eq, decide_eq_true_eq]
  exact List.le_of_lt h
theorem dlt_eS (s t : Nm × Nm) : dlt (eS s) (eS t) = decide (s.1 < t.1 ∨ s.1 = t.1 ∧ s.2 < t.2) := by
  obtain ⟨a, b⟩ := s
  obtain ⟨c, d⟩ := t
  have al : ∀ x y : Nm, PySem.W.alike (toPy (eN x)) (toPy (eN y)) = true := fun x y => by
    show PySem.W.alike (.tuple (toPys (x.map eI))) (.tuple (toPys (y.map eI))) = true
    unfold PySem.W.alike
    exact alikeAll_eI x y
  have q : ∀ x y : Nm, PyData.eqv (toPy (eN x)) (toPy (eN y)) = decide (x = y) := deq_eN
  have l : ∀ x y : Nm, PySem.W.dataLt (toPy (eN x)) (toPy (eN y)) = decide (x < y) := dlt_eN
  show PySem.W.dataLt (.tuple [toPy (eN a), toPy (eN b)]) (.tuple [toPy (eN c), toPy (eN d)]) = _
  rw [PySem.W.dataLt_pair (al _ _) (al _ _), q, q, l, l]
  by_cases h1 : a = c
  · subst h1
    by_cases h2 : b = d
    · subst h2
      simp [List.lt_irrefl]
    · simp [h2, List.lt_irrefl]
  · simp [h1]
end SG


set_option Elab.async false
set_option linter.all false
set_option maxRecDepth 100000
set_option maxHeartbeats 4000000
namespace SG
open PySem PySem.Spec L2
open PyProof.Rows hiding St
/-! ### the still renamings are a group that leaves no square -/
section
variable {n m q : Nat} {s t u : Nm × Nm} {f g p : Nm}
theorem covL_iff (hs : Surf n s) : f ∈ covL n m s t ↔ Cov n m s t f := ⟨covL_mem, fun h => List.mem_filterMap.mpr ⟨ap f 0, List.mem_range.mpr (h.lt 0 hs.pos), covAt_some hs h rfl⟩⟩
theorem covL_nodup (hs : Surf n s) : (covL n m s t).Nodup := by
  unfold covL
  have key : ∀ L : List Nat, L.Nodup → (L.filterMap (covAt n m s t)).Nodup := fun L => by
    induction L with
    | nil => exact fun _ => List.nodup_nil
    | cons b L ih =>
      intro h
      rw [List.nodup_cons] at h
      rw [List.filterMap_cons]
      split
      · exact ih h.2
      · rename_i f hf
        refine List.nodup_cons.mpr ⟨fun hm => ?_, ih h.2⟩
        obtain ⟨c, hc, e⟩ := List.mem_filterMap.mp hm
        have := (covAt_is e).2
        rw [(covAt_is hf).2] at this
        exact h.1 (this ▸ hc)
  exact key _ List.nodup_range
theorem Cov.one_at (hs : Surf n s) (h : Cov n m s t f) (k : Cov n m s t g) (hq : q < n) (h0 : ap f q = ap g q) : f = g := nm_ext (h.len.trans k.len.symm) fun i hi => by
  rw [h.len] at hi
  refine hs.any hq (fun i => ap f i = ap g i) h0 (fun i hi e => ?_) i hi
  have e : ap f i = ap g i := e
  show ap f (ap s.1 i) = ap g (ap s.1 i) ∧ ap f (ap s.2 i) = ap g (ap s.2 i)
  exact ⟨by rw [h.r i hi, k.r i hi, e], by rw [h.u i hi, k.u i hi, e]⟩
theorem Cov.idC (hs : Surf n s) : Cov n n s s (idN n) := ⟨(id_isN n).len, fun i hi => by rw [ap_id hi]; exact hi, fun i hi => by rw [ap_id hi, ap_id (hs.r.lt i hi)], fun i hi => by rw [ap_id hi, ap_id (hs.u.lt i hi)]⟩
theorem Cov.comp {l : Nat} (hs : Surf n s) (h : Cov n m s t f) (k : Cov m l t u g) : Cov n l s u (thenN f g) where
  len := by rw [then_len]; exact h.len
  lt := fun i hi => by rw [ap_then (by rw [h.len]; exact hi)]; exact k.lt _ (h.lt i hi)
  r := fun i hi => by rw [ap_then (by rw [h.len]; exact hs.r.lt i hi), ap_then (by rw [h.len]; exact hi), h.r i hi, k.r _ (h.lt i hi)]
  u := fun i hi => by rw [ap_then (by rw [h.len]; exact hs.u.lt i hi), ap_then (by rw [h.len]; exact hi), h.u i hi, k.u _ (h.lt i hi)]
theorem Cov.inv (hs : Surf n s) (ht : Surf n t) (h : Cov n n s t f) : Cov n n t s (backN f) := by
  have hf := h.naming hs ht
  refine ⟨hf.back.len, hf.back.lt, fun i hi => ?_, fun i hi => ?_⟩
  · have h1 := (hf.ap_back hi)
    have := h.r _ h1.1
    rw [h1.2] at this
    rw [← this, hf.back_ap (hs.r.lt _ h1.1)]
  · have h1 := (hf.ap_back hi)
    have := h.u _ h1.1
    rw [h1.2] at this
    rw [← this, hf.back_ap (hs.u.lt _ h1.1)]
end
end SG


set_option Elab.async false
set_option linter.all false
set_option maxRecDepth 100000
set_option maxHeartbeats 4000000
namespace SG
open PySem PySem.Spec L2
open PyProof.Rows hiding St
/-! ### tools of laws -/
section
variable {δ : Dr} {k n m q : Nat} {s t : Nm × Nm} {C : Ctx}
theorem for_nx {it : DI} {g : Tg} {b rest : DS} {ρ : Sls} {δ1 : Dr} {ds : List D} {r : D} (I : Sls → Prop) (hi : it C ρ δ = .ok ds δ1) (h : ∀ d ∈ ds, ∀ ρ δ, I ρ → ∃ ρ1, bindT g d ρ = some ρ1 ∧ ∃ ρ2 δ2, b C ρ1 δ = .ok (.nx ρ2) δ2 ∧ I ρ2) (h0 : I ρ) (hr : ∀ ρ δ, I ρ → ∃ δ', rest C ρ δ = .ok (.rt r) δ') :
    ∃ δ', dSeq (dFor it g b) rest C ρ δ = .ok (.rt r) δ' := by
  obtain ⟨ρ', δ2, h1, h2⟩ := for_inv (C := C) (g := g) (b := b) (ds := ds) (ρ := ρ) (δ := δ1) (fun _ ρ _ => I ρ) (fun i hi ρ δ hI => by
    obtain ⟨ρ1, h1, ρ2, δ2, h2, h3⟩ := h ds[i] (List.getElem_mem hi) ρ δ hI
    exact ⟨ρ1, ρ2, δ2, h1, .inl h2, h3⟩) h0
  obtain ⟨δ3, h3⟩ := hr ρ' δ2 h2
  exact ⟨δ3, seq_to ((dFor_to hi).trans h1) h3⟩
/-- how many laps -/
theorem laps {a b : Nat} {ns : List Int} {ρ : Sls} (ha : a ≤ 100) (hb : b ≤ 100) (h0 : ρ[0]? = some (.val (.scr ns))) : dRng1 (dBin .Add (dC (.int a)) (dFun2 sMin2 (dFun1 sLen (dPeek 0)) (dC (.int b)))) C ρ δ = .ok (rngD 0 (a + min ns.length b)) δ := by
  have hmin : sMin2 (.int ns.length) (.int b) = some (eI (min ns.length b)) := by
    show some (D.int (if (b : Int) < (ns.length : Int) then (b : Int) else (ns.length : Int))) = some (D.int ((min ns.length b : Nat) : Int))
    have : (if (b : Int) < (ns.length : Int) then (b : Int) else (ns.length : Int)) = ((min ns.length b : Nat) : Int) := by split <;> omega
    rw [this]
  refine rng1_to (bin_to c_to (fun2_to (fun1_to (peek_val h0) rfl) c_to hmin) ?_) (by omega)
  rw [add_ii]
  show some (D.int ((a : Int) + ((min ns.length b : Nat) : Int))) = some (D.int ((a + min ns.length b : Nat) : Int))
  rw [Int.natCast_add]
/-- a pick of what is put down -/
theorem pick_of {α : Type} {f : α → D} {xs : List α} (h0 : 0 < xs.length) (h1 : xs.length ≤ 1000) : ∃ x δ', x ∈ xs ∧ callN (k + 3) i__law_pick [.draw, .lst (xs.map f)] δ = .ok (f x) δ' := by
  obtain ⟨d, δ', hd, e⟩ := sp_pick (k := k) (δ := δ) (ds := xs.map f) (by rw [List.length_map]; exact h0) (by rw [List.length_map]; exact h1)
  obtain ⟨x, hx, rfl⟩ := List.mem_map.mp hd
  exact ⟨x, δ', hx, e⟩
theorem Pl.tup {xs : List D} {n : Nat} (h : n < 99) (hp : pls n xs = true) : Pl (.tup xs) := ⟨n + 1, by show n + 1 < 100; omega, by unfold pl; exact hp⟩
theorem Pl.lst {xs : List D} {n : Nat} (h : n < 99) (hp : pls n xs = true) : Pl (.lst xs) := ⟨n + 1, by show n + 1 < 100; omega, by unfold pl; exact hp⟩
theorem nc_eI (i : Int) : nc (.int i) = 1 := by unfold nc; rfl
theorem ncs_map {α : Type} {f : α → D} {c : Nat} : ∀ {xs : List α}, (∀ x ∈ xs, nc (f x) ≤ c) → ncs (xs.map f) ≤ xs.length * c
  | [], _ => by show ncs [] ≤ _; unfold ncs; omega
  | x :: xs, h => by
    have a := h x List.mem_cons_self
    have b := ncs_map (xs := xs) fun y hy => h y (List.mem_cons_of_mem _ hy)
    show nc (f x) + ncs (xs.map f) ≤ _
    rw [List.length_cons, Nat.add_mul]
    omega
theorem nc_eN (a : Nm) : nc (eN a) ≤ 1 + a.length := by
  have := ncs_map (f := eI) (c := 1) (xs := a) fun x _ => by rw [nc_eI]; exact Nat.le_refl _
  show 1 + ncs (a.map eI) ≤ _
  omega
theorem in_eT (x : Nm) (xs : List Nm) : cmpSem .In (eN x) (eT xs) = some (decide (x ∈ xs)) := by
  have h1 : pl DP (eN x) = true := pl_eN _ x
  have h2 : pl DP (.tup (xs.map eN)) = true := pl_eNt _ xs
  show inSem (eN x) (.tup (xs.map eN)) = _
  unfold inSem
  simp only [h1, h2, Bool.and_self, if_true, List.any_map]
  congr 1
  rw [Bool.eq_iff_iff, List.any_eq_true, decide_eq_true_eq]
  constructor
  · rintro ⟨y, hy, e⟩
    have e : deq (eN y) (eN x) = true := e
    rw [deq_eN, decide_eq_true_eq] at e
    exact e ▸ hy
  · intro h
    exact ⟨x, h, by show deq (eN x) (eN x) = true; rw [deq_eN]; simp⟩
theorem notin_eT (x : Nm) (xs : List Nm) : cmpSem .NotIn (eN x) (eT xs) = some (!decide (x ∈ xs)) := by
  have := in_eT x xs
  show (inSem (eN x) (eT xs)).map (!·) = _
  rw [show inSem (eN x) (eT xs) = some (decide (x ∈ xs)) from this]
  rfl
theorem len_eT (xs : List Nm) : sLen (eT xs) = some (eI xs.length) := by unfold eT sLen; simp only [List.length_map]
theorem len_eL (xs : List Nm) : sLen (eL xs) = some (eI xs.length) := by unfold eL sLen; simp only [List.length_map]
theorem len_mT {α : Type} (f : α → D) (xs : List α) : sLen (.tup (xs.map f)) = some (eI xs.length) := by unfold sLen; simp only [List.length_map]
theorem len_mL {α : Type} (f : α → D) (xs : List α) : sLen (.lst (xs.map f)) = some (eI xs.length) := by unfold sLen; simp only [List.length_map]
theorem tuple_eL (xs : List Nm) : sTuple (eL xs) = some (eT xs) := rfl
theorem list_eT (xs : List Nm) : sList (eT xs) = some (eL xs) := rfl
theorem it_eT (xs : List Nm) : itSem (eT xs) = some (xs.map eN) := rfl
theorem it_eL (xs : List Nm) : itSem (eL xs) = some (xs.map eN) := rfl
theorem eq_eT (xs ys : List Nm) : cmpSem .Eq (eT xs) (eT ys) = some (decide (xs = ys)) := by
  unfold cmpSem
  have h : pl DP (eT xs) = true := pl_eNt _ xs
  have h2 : pl DP (eT ys) = true := pl_eNt _ ys
  simp only [h, h2, Bool.and_self, if_true]
  unfold eT
  rw [deq_tup, deqs_map deq_eN]
theorem ne_eLL (xs ys : List Nm) : cmpSem .NotEq (eL xs) (eL ys) = some (!decide (xs = ys)) := by
  unfold cmpSem
  have h : pl DP (eL xs) = true := pl_eNs _ xs
  have h2 : pl DP (eL ys) = true := pl_eNs _ ys
  simp only [h, h2, Bool.and_self, if_true]
  unfold eL
  rw [deq_lst, deqs_map deq_eN]
theorem says_of {d : D} {n : Nat} (hn : n < 99) (hp : pl n d = true) (hl : nc d ≤ 1000) : callN (k + 2) i__law_says [d, d] δ = .ok (.bl true) δ := sp_says ⟨n, by show n < 100; omega, hp⟩ (Nat.lt_of_le_of_lt hl (by decide))
theorem nc_eT {xs : List Nm} {n : Nat} (h : ∀ a ∈ xs, a.length = n) : nc (eT xs) ≤ 1 + xs.length * (1 + n) := by
  have := ncs_map (f := eN) (c := 1 + n) (xs := xs) fun x hx => by have := nc_eN x; rw [h x hx] at this; exact this
  show 1 + ncs (xs.map eN) ≤ _
  omega
theorem pl_eT (n : Nat) (xs : List Nm) : pl (n + 2) (eT xs) = true := pl_eNt n xs
/-- the surface of three squares told at the laws' ends -/
def ell3 : Nm × Nm := ([1, 0, 2], [2, 1, 0])
theorem ell3_ok : Surf 3 ell3 where
  r := isN_of (by decide) (by decide) (by decide)
  u := isN_of (by decide) (by decide) (by decide)
  pos := by decide
  most := by decide
  conn := fun S h0 hc i hi => by
    have a := hc 0 (by decide) h0
    have h1 : S 1 := a.1
    have h2 : S 2 := a.2
    have : i = 0 ∨ i = 1 ∨ i = 2 := by omega
    rcases this with rfl | rfl | rfl <;> assumption
theorem body_nx {b : DS} {ρ ρ2 : Sls} {δ2 : Dr} {I : Sls → Prop} (h : b C ρ δ = .ok (.nx ρ2) δ2) (hI : I ρ2) : ∃ ρ2 δ2, b C ρ δ = .ok (.nx ρ2) δ2 ∧ I ρ2 := ⟨ρ2, δ2, h, hI⟩
end
end SG


set_option Elab.async false
set_option linter.all false
set_option maxRecDepth 100000
set_option maxHeartbeats 4000000
namespace SG
open PySem PySem.Spec L2
open PyProof.Rows hiding St
/-! ### least drawings -/
def ltS (s t : Nm × Nm) : Bool := decide (s.1 < t.1 ∨ s.1 = t.1 ∧ s.2 < t.2)
theorem nm_tri (a b : Nm) : a < b ∨ a = b ∨ b < a := by
  by_cases h : a < b
  · exact .inl h
  · by_cases k : b < a
    · exact .inr (.inr k)
    · exact .inr (.inl (List.le_antisymm (List.not_lt.mp k) (List.not_lt.mp h)))
theorem ltS_iff {s t : Nm × Nm} : ltS s t = true ↔ s.1 < t.1 ∨ s.1 = t.1 ∧ s.2 < t.2 := decide_eq_true_iff
theorem ltS_tri (s t : Nm × Nm) : ltS s t = true ∨ s = t ∨ ltS t s = true := by
  simp only [ltS_iff]
  obtain ⟨a, b⟩ := s
  obtain ⟨c, d⟩ := t
  rcases nm_tri a c with h | rfl | h
  · exact .inl (.inl h)
  · rcases nm_tri b d with k | rfl | k
    · exact .inl (.inr ⟨rfl, k⟩)
    · exact .inr (.inl rfl)
    · exact .inr (.inr (.inr ⟨rfl, k⟩))
  · exact .inr (.inr (.inl h))
theorem ltS_irr (s : Nm × Nm) : ltS s s = false := decide_eq_false fun h => by
  rcases h with h | ⟨_, h⟩ <;> exact absurd h (List.lt_irrefl _)
theorem ltS_trans {s t u : Nm × Nm} (h : ltS s t = true) (k : ltS t u = true) : ltS s u = true := by
  rw [ltS_iff] at *
  rcases h with h | ⟨e, h⟩ <;> rcases k with k | ⟨e2, k⟩
  · exact .inl (List.lt_trans h k)
  · exact .inl (e2 ▸ h)
  · exact .inl (e ▸ k)
  · exact .inr ⟨e.trans e2, List.lt_trans h k⟩
theorem ltS_asym {s t : Nm × Nm} (h : ltS s t = true) : ltS t s = false := by
  cases e : ltS t s with
  | false => rfl
  | true => have := ltS_trans h e; rw [ltS_irr] at this; cases this
def minS (x : Nm × Nm) (xs : List (Nm × Nm)) : Nm × Nm := xs.foldl (fun a y => if ltS y a then y else a) x
def minL : List (Nm × Nm) → Nm × Nm
  | [] => ([], [])
  | x :: xs => minS x xs
theorem minS_ok : ∀ (xs : List (Nm × Nm)) (x : Nm × Nm), minS x xs ∈ x :: xs ∧ ∀ y ∈ x :: xs, ltS y (minS x xs) = false
  | [], x => ⟨List.mem_cons_self, fun y hy => by rw [List.mem_singleton.mp hy]; exact ltS_irr x⟩
  | z :: xs, x => by
    have ih := minS_ok xs (if ltS z x then z else x)
    show minS (if ltS z x then z else x) xs ∈ _ ∧ ∀ y ∈ x :: z :: xs, ltS y (minS (if ltS z x then z else x) xs) = false
    refine ⟨?_, fun y hy => ?_⟩
    · rcases List.mem_cons.mp ih.1 with h | h
      · rw [h]
        split
        · exact List.mem_cons_of_mem _ List.mem_cons_self
        · exact List.mem_cons_self
      · exact List.mem_cons_of_mem _ (List.mem_cons_of_mem _ h)
    · have h0 := ih.2 _ List.mem_cons_self
      -- what is not below the lesser of two is not above it either
      have key : ∀ y, ltS y (if ltS z x then z else x) = false → ltS y (minS (if ltS z x then z else x) xs) = false := fun y hy => by
        cases e : ltS y (minS (if ltS z x then z else x) xs) with
        | false => rfl
        | true =>
          rcases ltS_tri (minS (if ltS z x then z else x) xs) (if ltS z x then z else x) with h | h | h
          · have := ltS_trans e h; rw [hy] at this; cases this
          · rw [h, hy] at e; cases e
          · rw [h0] at h; cases h
      rcases List.mem_cons.mp hy with rfl | hy
      · apply key
        cases e : ltS z y with
        | true => simp only [if_true]; exact ltS_asym e
        | false => simp only [Bool.false_eq_true, if_false]; exact ltS_irr y
      · rcases List.mem_cons.mp hy with rfl | hy
        · apply key
          cases e : ltS y x with
          | true => simp only [if_true]; exact ltS_irr y
          | false => simp only [Bool.false_eq_true, if_false]; exact e
        · exact ih.2 y (List.mem_cons_of_mem _ hy)
theorem minL_mem {xs : List (Nm × Nm)} (h : xs ≠ []) : minL xs ∈ xs := by
  cases xs with
  | nil => exact absurd rfl h
  | cons x xs => exact (minS_ok xs x).1
theorem minL_le {xs : List (Nm × Nm)} {y : Nm × Nm} (h : y ∈ xs) : ltS y (minL xs) = false := by
  cases xs with
  | nil => exact nomatch h
  | cons x xs => exact (minS_ok xs x).2 y h
theorem minL_same {xs ys : List (Nm × Nm)} (hx : xs ≠ []) (h : ∀ s, s ∈ xs ↔ s ∈ ys) : minL xs = minL ys := by
  have hy : ys ≠ [] := fun e => by
    have := (h _).mp (minL_mem hx)
    rw [e] at this
    exact nomatch this
  rcases ltS_tri (minL xs) (minL ys) with k | k | k
  · rw [minL_le ((h _).mp (minL_mem hx))] at k; cases k
  · exact k
  · rw [minL_le ((h _).mpr (minL_mem hy))] at k; cases k
theorem alikes_eS (xs : List (Nm × Nm)) : alikes (xs.map eS) = true := by
  unfold alikes
  rw [List.all_eq_true]
  intro x hx
  rw [List.all_eq_true]
  intro y hy
  obtain ⟨a, _, rfl⟩ := List.mem_map.mp hx
  obtain ⟨b, _, rfl⟩ := List.mem_map.mp hy
  have al : ∀ x y : Nm, PySem.W.alike (toPy (eN x)) (toPy (eN y)) = true := fun x y => by
    show PySem.W.alike (.tuple (toPys (x.map eI))) (.tuple (toPys (y.map eI))) = true
    unfold PySem.W.alike
    exact alikeAll_eI x y
  show PySem.W.alike (.tuple [toPy (eN a.1), toPy (eN a.2)]) (.tuple [toPy (eN b.1), toPy (eN b.2)]) = true
  simp only [PySem.W.alike, PySem.W.alikeAll, al, Bool.and_self]
/-- the surfaces renamed by all walks, the least of them -/
def drawS (n : Nat) (s : Nm × Nm) (q : Nat) : Nm × Nm := renS s (backN (walkL s q n))
def drawsL (n : Nat) (s : Nm × Nm) : List (Nm × Nm) := (List.range n).map (drawS n s)
def leaS (n : Nat) (s : Nm × Nm) : Nm × Nm := minL (drawsL n s)
section
variable {n m q : Nat} {s t u : Nm × Nm} {f g p r : Nm}
theorem drawsL_ne (hs : Surf n s) : drawsL n s ≠ [] := fun e => by
  have := congrArg List.length e
  unfold drawsL at this
  rw [List.length_map, List.length_range] at this
  have := hs.pos
  simp at *
  omega
theorem leaS_is (hs : Surf n s) : ∃ q, q < n ∧ leaS n s = drawS n s q := by
  obtain ⟨q, hq, e⟩ := List.mem_map.mp (minL_mem (drawsL_ne hs))
  exact ⟨q, List.mem_range.mp hq, e.symm⟩
theorem drawS_ok (hs : Surf n s) (hq : q < n) : Surf n (drawS n s q) := hs.ren (walk_isN hs hq).back
theorem leaS_ok (hs : Surf n s) : Surf n (leaS n s) := by
  obtain ⟨q, hq, e⟩ := leaS_is hs
  rw [e]; exact drawS_ok hs hq
theorem back_of_then (hf : IsN n f) (hg : IsN n g) : backN (thenN f g) = thenN (backN g) (backN f) := by
  have h1 := hf.then hg
  have h2 := hg.back.then hf.back
  have e : thenN (thenN f g) (thenN (backN g) (backN f)) = idN n := by
    rw [then_assoc hf hg h2, ← then_assoc hg hg.back hf.back, then_back hg, id_then hf.back, then_back hf]
  have e2 : thenN (backN (thenN f g)) (thenN (thenN f g) (thenN (backN g) (backN f))) = thenN (backN (thenN f g)) (idN n) := by rw [e]
  rw [← then_assoc h1.back h1 h2, back_then h1, id_then h2, then_id h1.back] at e2
  exact e2.symm
theorem ren_ren (h1 : IsN n s.1) (h2 : IsN n s.2) (hp : IsN n p) (hr : IsN n r) : renS (renS s p) r = renS s (thenN p r) := by
  have key : ∀ a, IsN n a → thenN (thenN (backN r) (thenN (thenN (backN p) a) p)) r = thenN (thenN (backN (thenN p r)) a) (thenN p r) := fun a ha => by
    rw [back_of_then hp hr, ← then_assoc ((hr.back.then hp.back).then ha) hp hr, then_assoc hr.back hp.back ha, then_assoc hr.back (hp.back.then ha) hp]
  show (_, _) = (_, _)
  rw [Prod.mk.injEq]
  exact ⟨key _ h1, key _ h2⟩
theorem ren_id (h1 : IsN n s.1) (h2 : IsN n s.2) : renS s (idN n) = s := by
  have hb : backN (idN n) = idN n := by
    have := then_back (id_isN n)
    rw [id_then (id_isN n).back] at this
    exact this
  show (thenN (thenN (backN (idN n)) s.1) (idN n), thenN (thenN (backN (idN n)) s.2) (idN n)) = s
  rw [hb, id_then h1, id_then h2, then_id h1, then_id h2]
theorem ren_back (h1 : IsN n s.1) (h2 : IsN n s.2) (hp : IsN n p) : renS (renS s p) (backN p) = s := by
  rw [ren_ren h1 h2 hp hp.back, then_back hp, ren_id h1 h2]
/-- drawings of a surface renamed are drawings of the surface -/
theorem draw_ren (hs : Surf n s) (hp : IsN n p) (hq : q < n) : drawS n (renS s p) (ap p q) = drawS n s q := by
  have hr := hs.ren hp
  have hw := walk_isN hs hq
  have e : walkL (renS s p) (ap p q) n = thenN (walkL s q n) p := walk_map hs (Cov.ren hs hp) hp hq n (Nat.le_refl _)
  unfold drawS
  rw [e, back_of_then hw hp, ren_ren hs.r hs.u hp (hp.back.then hw.back), ← then_assoc hp hp.back hw.back, then_back hp, id_then hw.back]
theorem leaS_ren (hs : Surf n s) (hp : IsN n p) : leaS n (renS s p) = leaS n s := by
  refine minL_same (drawsL_ne (hs.ren hp)) fun t => ?_
  unfold drawsL
  simp only [List.mem_map, List.mem_range]
  constructor
  · rintro ⟨q, hq, rfl⟩
    obtain ⟨i, hi, rfl⟩ := hp.surj hq
    exact ⟨i, hi, (draw_ren hs hp hi).symm⟩
  · rintro ⟨q, hq, rfl⟩
    exact ⟨ap p q, hp.lt q hq, draw_ren hs hp hq⟩
theorem leaS_lea (hs : Surf n s) : leaS n (leaS n s) = leaS n s := by
  obtain ⟨q, hq, e⟩ := leaS_is hs
  rw [e]
  show leaS n (renS s _) = _
  rw [leaS_ren hs (walk_isN hs hq).back, e]
end
section
variable {δ : Dr} {k n m q : Nat} {s t : Nm × Nm} {C : Ctx}
/-! ### numbers, or not -/
theorem in_eSL (x : Nm × Nm) (xs : List (Nm × Nm)) : cmpSem .NotIn (eS x) (.lst (xs.map eS)) = some (!decide (x ∈ xs)) := by
  have h1 : pl DP (eS x) = true := pl_eS _ x
  have h2 : pl DP (.lst (xs.map eS)) = true := by unfold pl; exact pls_map (pl_eS _) xs
  show (inSem (eS x) (.lst (xs.map eS))).map (!·) = _
  unfold inSem
  simp only [h1, h2, Bool.and_self, if_true, List.any_map, Option.map_some]
  congr 2
  rw [Bool.eq_iff_iff, List.any_eq_true, decide_eq_true_eq]
  constructor
  · rintro ⟨y, hy, e⟩
    have e : deq (eS y) (eS x) = true := e
    rw [deq_eS, decide_eq_true_eq] at e
    exact e ▸ hy
  · intro h
    exact ⟨x, h, by show deq (eS x) (eS x) = true; rw [deq_eS]; simp⟩
theorem lt_eS (s t : Nm × Nm) : cmpSem .Lt (eS s) (eS t) = some (ltS s t) := by
  have h1 : pl DP (eS s) = true := pl_eS _ s
  have h2 : pl DP (eS t) = true := pl_eS _ t
  have h3 : PySem.W.alike (toPy (eS s)) (toPy (eS t)) = true := by
    have := alikes_eS [s, t]
    unfold alikes at this
    simp only [List.map_cons, List.map_nil, List.all_cons, List.all_nil, Bool.and_true, Bool.and_eq_true] at this
    exact this.1.2
  show (if (pl DP (eS s) && pl DP (eS t) && PySem.W.alike (toPy (eS s)) (toPy (eS t))) = true then some (dlt (eS s) (eS t)) else none) = _
  rw [h1, h2, h3, dlt_eS]
  rfl
end
end SG


set_option Elab.async false
set_option linter.all false
set_option maxRecDepth 100000
set_option maxHeartbeats 4000000
namespace SG
open PySem PySem.Spec L2
open PyProof.Rows hiding St
/-! ### shears and turns add up -/
section
variable {n m q : Nat} {s t u : Nm × Nm} {a b f g p r : Nm}
theorem pwZ_zero (ha : IsN n a) : pwZ a 0 = idN n := by
  show idN a.length = idN n
  rw [ha.len]
theorem pwZ_nat (a : Nm) (m : Nat) : pwZ a (m : Int) = pw a m := by
  unfold pwZ
  rw [if_pos (Int.natCast_nonneg m), Int.natAbs_natCast]
theorem pwZ_succ (ha : IsN n a) (m : Int) : pwZ a (m + 1) = thenN (pwZ a m) a := by
  by_cases h : 0 ≤ m
  · obtain ⟨k, rfl⟩ := Int.eq_ofNat_of_zero_le h
    rw [show ((k : Nat) : Int) + 1 = ((k + 1 : Nat) : Int) from rfl, pwZ_nat, pwZ_nat]
    rfl
  · obtain ⟨k, hk⟩ : ∃ k : Nat, m = -((k : Int) + 1) := ⟨(-m - 1).toNat, by omega⟩
    subst hk
    have e1 : pwZ a (-((k : Int) + 1)) = pw (backN a) (k + 1) := by
      unfold pwZ
      rw [if_neg (by omega), show (-((k : Int) + 1)).natAbs = k + 1 by omega]
    have e2 : pwZ a (-((k : Int) + 1) + 1) = pw (backN a) k := by
      by_cases hk : k = 0
      · subst hk
        show idN a.length = idN (backN a).length
        rw [back_len]
      · unfold pwZ
        rw [if_neg (by omega), show (-((k : Int) + 1) + 1).natAbs = k by omega]
    rw [e1, e2]
    show pw (backN a) k = thenN (thenN (pw (backN a) k) (backN a)) a
    rw [then_assoc (ha.back.pw k) ha.back ha, back_then ha, then_id (ha.back.pw k)]
theorem pwZ_pred (ha : IsN n a) (m : Int) : pwZ a (m - 1) = thenN (pwZ a m) (backN a) := by
  have := pwZ_succ ha (m - 1)
  rw [show m - 1 + 1 = m by omega] at this
  rw [this, then_assoc (ha.pwZ _) ha ha.back, then_back ha, then_id (ha.pwZ _)]
theorem pwZ_add (ha : IsN n a) (x : Int) : ∀ y : Int, pwZ a (x + y) = thenN (pwZ a x) (pwZ a y) := by
  have pos : ∀ y : Nat, pwZ a (x + (y : Int)) = thenN (pwZ a x) (pwZ a (y : Int)) := fun y => by
    induction y with
    | zero => rw [show x + ((0 : Nat) : Int) = x by omega, show ((0 : Nat) : Int) = 0 from rfl, pwZ_zero ha, then_id (ha.pwZ _)]
    | succ y ih => rw [show x + ((y + 1 : Nat) : Int) = x + (y : Int) + 1 by omega, pwZ_succ ha, ih, show ((y + 1 : Nat) : Int) = (y : Int) + 1 from rfl, pwZ_succ ha, then_assoc (ha.pwZ _) (ha.pwZ _) ha]
  have neg : ∀ y : Nat, pwZ a (x + -(y : Int)) = thenN (pwZ a x) (pwZ a (-(y : Int))) := fun y => by
    induction y with
    | zero => rw [show x + -((0 : Nat) : Int) = x by omega, show -((0 : Nat) : Int) = 0 from rfl, pwZ_zero ha, then_id (ha.pwZ _)]
    | succ y ih => rw [show x + -((y + 1 : Nat) : Int) = x + -(y : Int) - 1 by omega, pwZ_pred ha, ih, show -((y + 1 : Nat) : Int) = -(y : Int) - 1 by omega, pwZ_pred ha, then_assoc (ha.pwZ _) (ha.pwZ _) ha.back]
  intro y
  by_cases h : 0 ≤ y
  · obtain ⟨k, rfl⟩ := Int.eq_ofNat_of_zero_le h
    exact pos k
  · have := neg (-y).toNat
    rw [show -((-y).toNat : Int) = y by omega] at this
    exact this
/-- each square comes back within as many steps as there are squares -/
theorem back_in (ha : IsN n a) {i : Nat} (hi : i < n) : ∃ d, 1 ≤ d ∧ d ≤ n ∧ ap (pw a d) i = i := by
  apply Classical.byContradiction
  intro hn
  have inj : ∀ j k, j < k → k ≤ n → ap (pw a j) i ≠ ap (pw a k) i := fun j k hjk hk e => by
    apply hn
    refine ⟨k - j, by omega, by omega, ?_⟩
    have h1 := pw_add ha (k - j) j
    rw [show k - j + j = k by omega] at h1
    rw [h1, ap_then (by rw [(ha.pw _).len]; exact hi)] at e
    exact ((ha.pw j).inj _ _ hi ((ha.pw _).lt i hi) e).symm
  have := nodup_len (n := n) (L := (List.range (n + 1)).map fun j => ap (pw a j) i) (by
    rw [List.nodup_iff_pairwise_ne, List.pairwise_map]
    refine (List.Pairwise.and_mem.mp List.pairwise_lt_range).imp fun ⟨hj, hk, hlt⟩ => ?_
    exact inj _ _ hlt (by have := List.mem_range.mp hk; omega)) fun x hx => by
    obtain ⟨j, _, rfl⟩ := List.mem_map.mp hx
    exact (ha.pw j).lt i hi
  rw [List.length_map, List.length_range] at this
  omega
theorem pw_mul_fix (ha : IsN n a) {i d : Nat} (hi : i < n) (h : ap (pw a d) i = i) : ∀ e, ap (pw a (d * e)) i = i
  | 0 => by
    show ap (idN a.length) i = i
    rw [ha.len]; exact ap_id hi
  | e + 1 => by
    rw [Nat.mul_succ, pw_add ha, ap_then (by rw [(ha.pw _).len]; exact hi), pw_mul_fix ha hi h e, h]
theorem shS_add (hs : Surf n s) (x y : Int) : shS (shS s x) y = shS s (x + y) := by
  show (s.1, thenN (thenN s.2 (pwZ s.1 (-x))) (pwZ s.1 (-y))) = (s.1, thenN s.2 (pwZ s.1 (-(x + y))))
  rw [then_assoc hs.u (hs.r.pwZ _) (hs.r.pwZ _), ← pwZ_add hs.r, show -x + -y = -(x + y) by omega]
theorem shS_zero (hs : Surf n s) : shS s 0 = s := by
  show (s.1, thenN s.2 (pwZ s.1 0)) = s
  rw [pwZ_zero hs.r, then_id hs.u]
theorem tuM_four (hs : Surf n s) : tuM s 4 = s := by
  show tuS (tuS (tuS (tuS s))) = s
  show (backN (backN s.1), backN (backN s.2)) = s
  rw [hs.r.back_back, hs.u.back_back]
theorem tuM_add (s : Nm × Nm) (x : Nat) : ∀ y, tuM (tuM s x) y = tuM s (x + y)
  | 0 => rfl
  | y + 1 => by
    show tuS (tuM (tuM s x) y) = tuS (tuM s (x + y))
    rw [tuM_add s x y]
theorem tuM_mod (hs : Surf n s) : ∀ x, tuM s x = tuM s (x % 4)
  | 0 => rfl
  | 1 => rfl
  | 2 => rfl
  | 3 => rfl
  | x + 4 => by
    rw [show x + 4 = 4 + x by omega, ← tuM_add, tuM_four hs, tuM_mod hs x, Nat.add_mod_left]
/-- turned by a whole number -/
def tuZ (s : Nm × Nm) (x : Int) : Nm × Nm := tuM s (x % 4).toNat
theorem tuZ_add (hs : Surf n s) (x y : Int) : tuZ (tuZ s x) y = tuZ s (x + y) := by
  unfold tuZ
  rw [tuM_add, tuM_mod hs]
  congr 1
  omega
theorem Surf.tuZ (hs : Surf n s) (x : Int) : Surf n (tuZ s x) := hs.tuM _
end
end SG


set_option Elab.async false
set_option linter.all false
set_option maxRecDepth 100000
set_option maxHeartbeats 4000000
namespace SG
open PySem PySem.Spec L2
open PyProof.Rows hiding St
local macro_rules | `(tactic| walk_at "b") => `(tactic| first | with_reducible assumption | (simp only [decide_eq_true_eq, decide_eq_false_iff_not, Bool.not_eq_true', Bool.not_eq_false', Bool.not_true, Bool.not_false, decide_not, ne_eq]; first | done | with_reducible assumption | omega) | (simp; done) | (simp; omega))
local macro_rules | `(tactic| walk_at "sel") => `(tactic| ((with_reducible change selT _ _ _ _ _ _ = _); first | (refine sel_t (by rfl) ?_) | (refine sel_f (by rfl) ?_) | (refine sel_t (by walk_at "b") ?_) | (refine sel_f (by walk_at "b") ?_)))
local macro_rules | `(tactic| walk_at "slot") => `(tactic| first | ((with_reducible apply peek_val); exact rfl) | ((with_reducible apply var_val); exact rfl) | ((with_reducible apply peek_own); exact rfl))
local macro_rules | `(tactic| walk_at "d") => `(tactic| first | with_reducible exact c_to | walk_at "slot" | with_reducible apply callK | with_reducible apply fun1_to | with_reducible apply ix_to | with_reducible apply bl_to | with_reducible apply bin_to | with_reducible apply orV_b | with_reducible apply andV_b | with_reducible apply notV_to | with_reducible apply if_b | with_reducible apply tupW | with_reducible apply lstW | with_reducible apply neg_to | with_reducible apply fun2_to | with_reducible exact mpure_d | with_reducible apply cat_to | with_reducible apply rgN_to | with_reducible apply sl_to | with_reducible apply caught_ok | with_reducible apply tidx_N | walk_at "sel")
local macro_rules | `(tactic| walk_at "t") => `(tactic| first | with_reducible apply cmp_to | with_reducible apply tst_to | with_reducible apply not_to | with_reducible apply or_b | with_reducible apply and_b | with_reducible apply chain_b | with_reducible apply chR_to | with_reducible exact mpure_b | walk_at "sel")
local macro_rules | `(tactic| walk_at "l") => `(tactic| first | with_reducible exact nil_to | with_reducible apply cons_to | with_reducible apply it_to | with_reducible apply rngN_to | with_reducible apply perm_to | with_reducible apply enum_N | with_reducible apply zip_S)
local macro_rules | `(tactic| walk_at "o") => `(tactic| first | with_reducible exact none_to | with_reducible apply some_to)
local macro_rules | `(tactic| walk_at "s") => `(tactic| first | with_reducible apply seq_fl | with_reducible apply cont_nx | with_reducible exact cont_rt | with_reducible apply ifs_b | with_reducible apply set_to | ((with_reducible apply par2_W); exact rfl) | ((with_reducible apply par3_W); exact rfl) | with_reducible apply ret_eq | with_reducible apply drop_to | with_reducible exact nop_to | ((with_reducible change dNop _ _ _ = _); exact rfl) | with_reducible apply asg_to | ((with_reducible apply app_V); exact rfl; exact of_decide_eq_true rfl) | walk_at "sel")
local macro_rules | `(tactic| walk_at "z") => `(tactic| first | with_reducible apply zv_to | with_reducible apply zo_to)
local macro_rules | `(tactic| walk_at "v") => `(tactic| first | with_reducible exact ne_len _ _ | with_reducible exact eq_len _ _ | with_reducible exact ne_ii _ _ | with_reducible exact eq_ii _ _ | with_reducible exact ne_eN _ _ | with_reducible exact eq_eN _ _ | with_reducible exact ne_eS _ _ | with_reducible exact eq_eS _ _ | with_reducible exact len_eN _ | with_reducible apply ix_eN | with_reducible exact ix0 _ | with_reducible exact ix1 _ | with_reducible exact it_eN _ | with_reducible exact len_eT _ | with_reducible exact len_eL _ | with_reducible exact tuple_eL _ | with_reducible exact list_eT _ | with_reducible exact it_eT _ | with_reducible exact it_eL _ | with_reducible exact len_mT _ _ | with_reducible exact len_mL _ _ | with_reducible exact lt_eS _ _ | with_reducible exact in_eSL _ _ | with_reducible exact in_eT _ _ | with_reducible exact in_eN _ _ | with_reducible exact ints_sum _ | with_reducible exact notin_eT _ _ | with_reducible exact ne_eT _ _ | with_reducible exact eq_eT _ _ | with_reducible exact ne_eLL _ _ | with_reducible exact ne_eO_same _ | with_reducible exact it_eS _ | ((with_reducible change binSem _ _ _ = _); exact rfl) | ((with_reducible change ixSem _ _ = _); exact rfl) | ((with_reducible change sIsi _ _ = _); exact rfl) | ((with_reducible change sIsC _ _ = _); exact rfl) | ((with_reducible change cmpSem .Lt (.int _) (.int _) = _); exact rfl) | ((with_reducible change cmpSem .LtE (.int _) (.int _) = _); exact rfl) | ((with_reducible change cmpSem .Gt (.int _) (.int _) = _); exact rfl) | ((with_reducible change cmpSem .GtE (.int _) (.int _) = _); exact rfl) | ((with_reducible change cmpSem .Is _ _ = _); exact rfl) | ((with_reducible change cmpSem .IsNot _ _ = _); exact rfl) | ((with_reducible change cmpSem .NotEq (.lst []) (.lst []) = _); exact rfl) | ((with_reducible change sLen _ = _); exact rfl) | ((with_reducible change sTuple _ = _); exact rfl) | ((with_reducible change sList _ = _); exact rfl) | ((with_reducible change sInt _ = _); exact rfl) | ((with_reducible change sAbs _ = _); exact rfl) | ((with_reducible change itSem _ = _); exact rfl) | ((with_reducible change catSem _ _ = _); exact rfl) | ((with_reducible change bindT _ _ _ = _); exact rfl) | ((with_reducible change permO _ _ = _); exact rfl) | ((with_reducible change slSem _ _ _ = _); exact rfl) | ((with_reducible change decide _ = true); exact rfl) | ((with_reducible change @Eq D _ _); exact rfl) | with_reducible assumption | omega)
local macro_rules | `(tactic| walk_at "e") => `(tactic| first | ((with_reducible change @Eq (Res D) _ _); walk_at "d") | ((with_reducible change @Eq (Res Bool) _ _); walk_at "t") | ((with_reducible change @Eq (Res Fl) _ _); walk_at "s") | ((with_reducible change @Eq (Res (List D)) _ _); walk_at "l") | ((with_reducible change @Eq (Res Sl) _ _); walk_at "z") | ((with_reducible change @Eq (Res (Option Int)) _ _); walk_at "o") | walk_at "v")
/-! ### shears and turns, as program and law reckon them -/
section
variable {δ : Dr} {k n m q : Nat} {s t : Nm × Nm} {C : Ctx}
theorem abs_to (i : Int) : sAbs (.int i) = some (.int (i.natAbs : Int)) := by
  show some (D.int (if i < 0 then -i else i)) = _
  have : (if i < 0 then -i else i) = (i.natAbs : Int) := by split <;> omega
  rw [this]
/-! ### the law's own -/
theorem sp_law_power {a : Nm} (ha : IsN n a) (hn : n ≤ 1000) (x : Int) : callN (k + 2) i__law_power [eN a, .int x] δ = .ok (eN (pwZ a x)) δ := by
  rw [cn__law_power]
  obtain ⟨b, hbn, hbe⟩ : ∃ b, IsN n b ∧ b = (if 0 ≤ x then a else backN a) := ⟨_, by split; exact ha; exact ha.back, rfl⟩
  have z2 : dIf (dCmp .GtE (dPeek 1) (dC (.int 0))) (dVar 0) (dCall i__law_back (dCons (dVar 0) (dNil))) ⟨callN (k + 1)⟩ [.val (eN a), .val (.int x), .no, .no, .no] δ = .ok (eN b) δ := by
    by_cases h0 : 0 ≤ x
    · rw [hbe, if_pos h0]
      exact if_t (cmp_to (peek_val rfl) c_to (by show some (decide ((0 : Int) ≤ x)) = _; rw [decide_eq_true h0])) (var_val rfl)
    · rw [hbe, if_neg h0]
      exact if_f (cmp_to (peek_val rfl) c_to (by show some (decide ((0 : Int) ≤ x)) = _; rw [decide_eq_false h0])) (callK (cons_to (var_val rfl) nil_to) (sp_law_back (k := k) ha hn))
  let I : Sls → Dr → Prop := fun ρ δ' => δ' = δ ∧ ∃ (F B : Nm) (q : Nat), ρ = [.val (eN a), .val (.int x), .val (eN F), .val (.int q), .val (eN B)] ∧ IsN n F ∧ IsN n B ∧ thenN F (pw B q) = pwZ a x
  let J : Sls → Dr → Prop := fun ρ δ' => δ' = δ ∧ ∃ (B : D), ρ = [.val (eN a), .val (.int x), .val (eN (pwZ a x)), .val (.int 0), .val B]
  have h0 : I [.val (eN a), .val (.int x), .val (eN (idN n)), .val (.int x.natAbs), .val (eN b)] δ := ⟨rfl, idN n, b, x.natAbs, rfl, id_isN n, hbn, by rw [id_then (hbn.pw _), hbe]; rfl⟩
  obtain ⟨ρ', δ', e1, e2, B, e3⟩ := while_inv (C := ⟨callN (k + 1)⟩) (t := dCmp .Gt (dPeek 3) (dC (.int 0))) (b := dSeq (dSet 2 (zV (dIf (dCmp .Eq (dBin .Mod (dPeek 3) (dC (.int 2))) (dC (.int 1))) (dCall i__law_then (dCons (dVar 2) (dCons (dVar 4) (dNil)))) (dVar 2)))) (dPar2 4 3 (zV (dCall i__law_then (dCons (dVar 4) (dCons (dVar 4) (dNil))))) (zV (dBin .FloorDiv (dPeek 3) (dC (.int 2)))))) I J (fun ρ => match ρ[3]? with | some (Sl.val (D.int q)) => q.natAbs | _ => 0) (fun ρ δ' hI => by
    obtain ⟨rfl, F, B, q, rfl, hF, hB, hE⟩ := hI
    have t : dCmp .Gt (dPeek 3) (dC (.int 0)) ⟨callN (k + 1)⟩ [.val (eN a), .val (.int x), .val (eN F), .val (.int q), .val (eN B)] δ' = .ok (decide ((0 : Int) < q)) δ' := cmp_to (peek_val rfl) c_to rfl
    by_cases hq : q = 0
    · subst hq
      refine .inl ⟨t, rfl, eN B, ?_⟩
      have e : thenN F (idN B.length) = pwZ a x := hE
      rw [hB.len, then_id hF] at e
      rw [← e]; rfl
    · refine .inr ⟨by rw [t, decide_eq_true (by omega)], ?_⟩
      have hmu : ∀ F' B', (match ([.val (eN a), .val (.int x), .val F', .val (.int ((q / 2 : Nat) : Int)), .val B'] : Sls)[3]? with | some (Sl.val (D.int q)) => q.natAbs | _ => 0) < (match ([.val (eN a), .val (.int x), .val (eN F), .val (.int (q : Int)), .val (eN B)] : Sls)[3]? with | some (Sl.val (D.int q)) => q.natAbs | _ => 0) := fun F' B' => by
        simp only [List.getElem?_cons_succ, List.getElem?_cons_zero, Int.natAbs_natCast]
        exact Nat.div_lt_self (by omega) (by decide)
      have m1 := mod_nat q 2 (by decide)
      have d1 := div_nat q 2 (by decide) (by decide)
      have last : ∀ F', dPar2 4 3 (zV (dCall i__law_then (dCons (dVar 4) (dCons (dVar 4) (dNil))))) (zV (dBin .FloorDiv (dPeek 3) (dC (.int 2)))) ⟨callN (k + 1)⟩ [.val (eN a), .val (.int x), .val (eN F'), .val (.int q), .val (eN B)] δ' = .ok (.nx [.val (eN a), .val (.int x), .val (eN F'), .val (.int ((q / 2 : Nat) : Int)), .val (eN (thenN B B))]) δ' := fun F' =>
        par2_to (zv_to (callK (cons_to (var_val rfl) (cons_to (var_val rfl) nil_to)) (sp_law_then (k := k) hB hB hn))) (zv_to (bin_to (peek_val rfl) c_to d1)) ⟨show 4 < 5 by decide, show 3 < 5 by decide, by decide⟩
      have tq : dCmp .Eq (dBin .Mod (dPeek 3) (dC (.int 2))) (dC (.int 1)) ⟨callN (k + 1)⟩ [.val (eN a), .val (.int x), .val (eN F), .val (.int q), .val (eN B)] δ' = .ok (decide (q % 2 = 1)) δ' := cmp_to (bin_to (peek_val rfl) c_to m1) c_to (eq_len (q % 2) 1)
      by_cases ho : q % 2 = 1
      · rw [decide_eq_true ho] at tq
        refine ⟨_, δ', seq_to (set_to (zv_to (if_t tq (callK (cons_to (var_val rfl) (cons_to (var_val rfl) nil_to)) (sp_law_then (k := k) hF hB hn))))) (last (thenN F B)), ⟨rfl, thenN F B, thenN B B, q / 2, rfl, hF.then hB, hB.then hB, ?_⟩, hmu (eN (thenN F B)) (eN (thenN B B))⟩
        have e2 : thenN B (pw B (2 * (q / 2))) = pw B q := by
          have h1 := pw_add hB 1 (2 * (q / 2))
          rw [pw_one hB] at h1
          rw [← h1, show 1 + 2 * (q / 2) = q by omega]
        rw [← hE, pw_sq hB, then_assoc hF hB (hB.pw _), e2]
      · rw [decide_eq_false ho] at tq
        refine ⟨_, δ', seq_to (set_to (zv_to (if_f tq (var_val rfl)))) (last F), ⟨rfl, F, thenN B B, q / 2, rfl, hF, hB.then hB, ?_⟩, hmu (eN F) (eN (thenN B B))⟩
        rw [← hE, pw_sq hB, show 2 * (q / 2) = q by omega]) h0
  subst e2
  subst e3
  exact run_rt rfl (by decide) (seq_to (par3_to (zv_to (rgN_to (kk := .tup) (n := n) (fun1_to (peek_val rfl) ha.lenD) (by omega))) (zv_to (fun1_to (peek_val rfl) (abs_to x))) (zv_to z2) ⟨show 2 < 5 by decide, show 3 < 5 by decide, show 4 < 5 by decide, by decide, by decide, by decide⟩) (seq_to e1 (ret_to (var_val rfl))))
theorem sp_law_sheared (hs : Surf n s) (x : Int) : callN (k + 3) i__law_sheared [eS s, .int x] δ = .ok (eS (shS s x)) δ := by
  rw [cn__law_sheared]
  have hn : n ≤ 1000 := Nat.le_trans hs.most (by decide)
  have x1 := sp_law_power (k := k) (δ := δ) hs.r hn (-x)
  have x2 := sp_law_then (k := k + 1) (δ := δ) hs.u (hs.r.pwZ (-x)) hn
  have x3 : binSem .Sub (.int 0) (.int x) = some (.int (-x)) := by rw [sub_ii, Int.zero_sub]
  refine run_rt rfl (by decide) ?_
  unfold c__law_sheared
  repeat (first | ((with_reducible change callN _ _ _ _ = _); first | exact x1 | exact x2) | with_reducible exact x3 | walk_at "e")
theorem sp_law_turned (hs : Surf n s) (x : Int) : callN (k + 2) i__law_turned [eS s, .int x] δ = .ok (eS (tuZ s x)) δ := by
  rw [cn__law_turned]
  have m1 : binSem .Mod (.int x) (.int 4) = some (.int (((x % 4).toNat : Nat) : Int)) := by
    unfold binSem
    simp only
    rw [if_pos (by decide), Int.toNat_of_nonneg (by omega)]
  let I : Nat → Sls → Dr → Prop := fun i ρ δ' => δ' = δ ∧ ∃ t, ρ = [.val (eS s), .val (.int x), .val (eS (tuM s i)), t]
  obtain ⟨ρ', δ', e1, e2, t, e3⟩ := for_inv (C := ⟨callN (k + 1)⟩) (g := .n 3) (b := dSet 2 (zV (dTup (dCons (dCall i__law_back (dCons (dIx (dPeek 2) (dC (.int 1))) (dNil))) (dCons (dIx (dPeek 2) (dC (.int 0))) (dNil)))))) (ds := rngD 0 (x % 4).toNat) I (fun i hi ρ δ2 hI => by
    obtain ⟨rfl, t, rfl⟩ := hI
    have hs := hs.tuM i
    exact ⟨_, _, δ2, rfl, .inl (set_to (zv_to (tup_to (cons_to (callK (cons_to (ix_to (peek_val rfl) c_to (ix1 _)) nil_to) (sp_law_back (k := k) hs.u (Nat.le_trans hs.most (by decide)))) (cons_to (ix_to (peek_val rfl) c_to (ix0 _)) nil_to)) two_line))), rfl, _, rfl⟩) (ρ := [.val (eS s), .val (.int x), .val (eS s), .no]) (δ := δ) ⟨rfl, .no, rfl⟩
  rw [rng_len] at e3
  subst e2
  subst e3
  exact run_rt rfl (by decide) (seq_to (set_to (zv_to (var_val rfl))) (seq_to ((dFor_to (rng1_to (bin_to (fun1_to (t := dPeek 1) (d := .int x) (e := .int x) (g := sInt) (peek_val rfl) rfl) c_to m1) (by omega))).trans e1) (ret_to (var_val rfl))))
end
end SG


set_option Elab.async false
set_option linter.all false
set_option maxRecDepth 100000
set_option maxHeartbeats 4000000
namespace SG
open PySem PySem.Spec L2
open PyProof.Rows hiding St
/-! ### cycles -/
section
variable {n m q i j x y d : Nat} {a c f p : Nm}
/-- after how many steps a square comes back -/
def per (c : Nm) (i : Nat) : Nat := match (List.range c.length).find? (fun d => ap (pw c (d + 1)) i == i) with
  | some d => d + 1
  | none => 0
theorem per_ok (hc : IsN n c) (hi : i < n) : 1 ≤ per c i ∧ per c i ≤ n ∧ ap (pw c (per c i)) i = i ∧ ∀ d, 1 ≤ d → d < per c i → ap (pw c d) i ≠ i := by
  obtain ⟨d0, h1, h2, h3⟩ := back_in hc hi
  unfold per
  rw [hc.len]
  cases e : (List.range n).find? (fun d => ap (pw c (d + 1)) i == i) with
  | none =>
    rw [List.find?_eq_none] at e
    have := e (d0 - 1) (List.mem_range.mpr (by omega))
    rw [show d0 - 1 + 1 = d0 by omega, h3] at this
    simp at this
  | some d =>
    rw [List.find?_range_eq_some] at e
    obtain ⟨e1, e2, e3⟩ := e
    have e2 := List.mem_range.mp e2
    refine ⟨Nat.succ_pos _, e2, by simpa using e1, fun b hb hlt h => ?_⟩
    have hlt : b < d + 1 := hlt
    have := e3 (b - 1) (by omega)
    rw [show b - 1 + 1 = b by omega, h] at this
    simp at this
theorem pw_fix (hc : IsN n c) (hi : i < n) (e : Nat) : ap (pw c (per c i * e)) i = i := pw_mul_fix hc hi (per_ok hc hi).2.2.1 e
theorem pw_mod (hc : IsN n c) (hi : i < n) (j : Nat) : ap (pw c j) i = ap (pw c (j % per c i)) i := by
  have h := pw_add hc (per c i * (j / per c i)) (j % per c i)
  rw [Nat.div_add_mod] at h
  rw [h, ap_then (by rw [(hc.pw _).len]; exact hi), pw_fix hc hi]
theorem pw_inj (hc : IsN n c) (hi : i < n) {j k : Nat} (hj : j < per c i) (hk : k < per c i) (e : ap (pw c j) i = ap (pw c k) i) : j = k := by
  have key : ∀ j k, j ≤ k → k < per c i → ap (pw c j) i = ap (pw c k) i → j = k := fun j k hjk hk e => by
    apply Classical.byContradiction
    intro hne
    have h1 := pw_add hc (k - j) j
    rw [show k - j + j = k by omega] at h1
    rw [h1, ap_then (by rw [(hc.pw _).len]; exact hi)] at e
    exact (per_ok hc hi).2.2.2 (k - j) (by omega) (by omega) ((hc.pw j).inj _ _ hi ((hc.pw _).lt i hi) e).symm
  rcases Nat.le_total j k with h | h
  · exact key j k h hk e
  · exact (key k j h hj e.symm).symm
/-- the cycle from a square on -/
def cyc (c : Nm) (i : Nat) : Nm := (List.range (per c i)).map fun j => ap (pw c j) i
theorem mem_cyc (hc : IsN n c) (hi : i < n) : x ∈ cyc c i ↔ ∃ j, ap (pw c j) i = x := by
  unfold cyc
  rw [List.mem_map]
  constructor
  · rintro ⟨j, _, e⟩; exact ⟨j, e⟩
  · rintro ⟨j, e⟩
    exact ⟨j % per c i, List.mem_range.mpr (Nat.mod_lt _ (per_ok hc hi).1), by rw [← pw_mod hc hi]; exact e⟩
/-- the least of its cycle -/
def leastB (c : Nm) (i : Nat) : Bool := (cyc c i).all fun x => decide (i ≤ x)
/-- the cycles that begin below m -/
def headsU (c : Nm) (m : Nat) : List Nat := (List.range m).filter (leastB c)
/-- lengths come to the squares -/
def lens (c : Nm) : List Nat := (headsU c c.length).map (per c)
end
end SG


set_option Elab.async false
set_option linter.all false
set_option maxRecDepth 100000
set_option maxHeartbeats 4000000
namespace SG
open PySem PySem.Spec L2
open PyProof.Rows hiding St
/-! ### corners, kinds -/
def rndS (s : Nm × Nm) : Nm := thenN (thenN (thenN (backN s.1) (backN s.2)) s.1) s.2
section
variable {n m q i j x : Nat} {s t : Nm × Nm} {a c p : Nm}
theorem Surf.rnd (hs : Surf n s) : IsN n (rndS s) := ((hs.r.back.then hs.u.back).then hs.r).then hs.u
theorem pwZ_m1 (ha : IsN n a) : pwZ a (-1) = backN a := by
  have := pwZ_pred ha 0
  rw [pwZ_zero ha, id_then ha.back] at this
  exact this
theorem back_pwZ (ha : IsN n a) (x : Int) : backN (pwZ a x) = pwZ a (-x) := by
  have h := pwZ_neg ha x
  have h2 : thenN (backN (pwZ a x)) (thenN (pwZ a x) (pwZ a (-x))) = thenN (backN (pwZ a x)) (idN n) := by rw [h]
  rw [← then_assoc (ha.pwZ x).back (ha.pwZ x) (ha.pwZ _), back_then (ha.pwZ x), id_then (ha.pwZ _), then_id (ha.pwZ x).back] at h2
  exact h2.symm
end
section
variable {δ : Dr} {k n m q : Nat} {s t : Nm × Nm} {C : Ctx} {a : Nm}
theorem in_eN (q : Nat) (a : Nm) : cmpSem .In (eI q) (eN a) = some (decide (q ∈ a)) := by
  have h1 : pl DP (eI q) = true := pl_eI _ q
  have h2 : pl DP (.tup (a.map eI)) = true := pl_eN _ a
  show inSem (eI q) (.tup (a.map eI)) = _
  unfold inSem
  simp only [h1, h2, Bool.and_self, if_true, List.any_map]
  congr 1
  rw [Bool.eq_iff_iff, List.any_eq_true, decide_eq_true_eq]
  constructor
  · rintro ⟨y, hy, e⟩
    have e : deq (eI y) (eI q) = true := e
    rw [deq_eI, decide_eq_true_eq] at e
    exact e ▸ hy
  · intro h
    exact ⟨q, h, by show deq (eI q) (eI q) = true; rw [deq_eI]; simp⟩
theorem notin_line (q : Nat) (L : List Nat) : cmpSem .NotIn (eI q) (lineD' L) = some (decide (q ∉ L)) := by
  have h1 : pl DP (eI q) = true := pl_eI _ q
  have h2 : pl DP (.lst (L.map eI)) = true := by unfold pl; exact pls_map (pl_eI _) L
  show (inSem (eI q) (.lst (L.map eI))).map (!·) = _
  unfold inSem
  simp only [h1, h2, Bool.and_self, if_true, List.any_map, Option.map_some]
  congr 1
  have : (L.any ((fun y => deq y (eI q)) ∘ eI)) = decide (q ∈ L) := by
    rw [Bool.eq_iff_iff, List.any_eq_true, decide_eq_true_eq]
    constructor
    · rintro ⟨y, hy, e⟩
      have e : deq (eI y) (eI q) = true := e
      rw [deq_eI, decide_eq_true_eq] at e
      exact e ▸ hy
    · intro h
      exact ⟨q, h, by show deq (eI q) (eI q) = true; rw [deq_eI]; simp⟩
  rw [this]
  by_cases h : q ∈ L <;> simp [h]
theorem ints_sum (a : Nm) : sSum (eN a) = some (eI a.sum) := by
  show (intsD (a.map eI)).map (fun ns => D.int ns.sum) = _
  rw [ints_eI]
  show some (D.int _) = some (D.int _)
  have : (a.map fun i : Nat => (i : Int)).sum = (a.sum : Int) := by
    induction a with
    | nil => rfl
    | cons x a ih => rw [List.map_cons, List.sum_cons, List.sum_cons, ih, Int.natCast_add]
  rw [this]
end
end SG


set_option Elab.async false
set_option linter.all false
set_option maxRecDepth 100000
set_option maxHeartbeats 4000000
namespace SG
open PySem PySem.Spec L2
open PyProof.Rows hiding St
section
variable {δ δ1 δ2 δ3 : Dr} {C : Ctx} {ρ : Sls}
theorem par3_W {i j l : Nat} {za zb zc : DZ} {s s1 s2 : Sl} (hc : (decide (i < ρ.length) && decide (j < ρ.length) && decide (l < ρ.length) && decide (i ≠ j) && decide (i ≠ l) && decide (j ≠ l)) = true) (h : za C ρ δ = .ok s δ1) (h2 : zb C ρ δ1 = .ok s1 δ2) (h3 : zc C ρ δ2 = .ok s2 δ3) : dPar3 i j l za zb zc C ρ δ = .ok (.nx (((ρ.set i s).set j s1).set l s2)) δ3 :=
  par3_to h h2 h3 (by simp only [Bool.and_eq_true, decide_eq_true_eq] at hc; exact ⟨hc.1.1.1.1.1, hc.1.1.1.1.2, hc.1.1.1.2, hc.1.1.2, hc.1.2, hc.2⟩)
/-- a comprehension whose test never holds -/
theorem lc_non {α : Type} {f : α → D} {xs : List α} {it : DI} {g : Tg} {tt : DT} {te : DE} {vs : List Nat} (hi : it C ρ δ = .ok (xs.map f) δ1) (ho : ownless ρ vs = true) (hl : xs.length ≤ LINE)
    (h : ∀ x ∈ xs, ∃ ρ1, bindT g (f x) (wipeR ρ vs) = some ρ1 ∧ ∀ δ, tt C ρ1 δ = .ok false δ) : dLc it g tt te vs C ρ δ = .ok (.lst []) δ1 := by
  have := lc_fl (f := f) (y := fun _ => .non) (p := fun _ => false) (te := te) hi ho hl fun x hx => by
    obtain ⟨ρ1, h1, h2⟩ := h x hx
    exact ⟨ρ1, h1, h2, fun z => nomatch z⟩
  rw [List.filter_eq_nil_iff.mpr fun _ _ => by simp] at this
  exact this
end
end SG


set_option Elab.async false
set_option linter.all false
set_option maxRecDepth 100000
set_option maxHeartbeats 4000000
namespace SG
open PySem PySem.Spec L2
open PyProof.Rows hiding St
/-! ### rows with equal tables lead to alike surfaces -/
abbrev Row := List (Bool × Int)
/-- two rows that lead all surfaces to alike ones -/
structure Eqv (w w' : Row) : Prop where
  run : ∀ (n : Nat) (s : Nm × Nm), Surf n s → ∃ p, IsN n p ∧ renS (mvS s w) p = mvS s w'
abbrev sh (x : Int) : Bool × Int := (true, x)
abbrev tu (x : Int) : Bool × Int := (false, x)
section
variable {n m q : Nat} {s t : Nm × Nm} {a b c p : Nm}
theorem mvS_app (s : Nm × Nm) (w v : Row) : mvS s (w ++ v) = mvS (mvS s w) v := by unfold mvS; exact List.foldl_append
theorem mv_ren (hs : Surf n s) (hp : IsN n p) (w : Row) : mvS (renS s p) w = renS (mvS s w) p := by
  have hr := hs.ren hp
  exact ((ren_cov (hs.mv w) (hr.mv w) hp).mpr ((Cov.mv hs hr w).mpr (Cov.ren hs hp))).symm
end
section
variable {w w' v v' u : Row}
theorem Eqv.refl (w : Row) : Eqv w w := ⟨fun n s hs => ⟨idN n, id_isN n, ren_id (hs.mv w).r (hs.mv w).u⟩⟩
theorem Eqv.of (h : ∀ n s, Surf n s → mvS s w = mvS s w') : Eqv w w' := ⟨fun n s hs => by rw [← h n s hs]; exact (Eqv.refl w).run n s hs⟩
theorem Eqv.symm (h : Eqv w w') : Eqv w' w := ⟨fun n s hs => by
  obtain ⟨p, hp, e⟩ := h.run n s hs
  exact ⟨backN p, hp.back, by rw [← e]; exact ren_back (hs.mv w).r (hs.mv w).u hp⟩⟩
theorem Eqv.trans (h : Eqv w w') (k : Eqv w' v) : Eqv w v := ⟨fun n s hs => by
  obtain ⟨p, hp, e⟩ := h.run n s hs
  obtain ⟨r, hr, e2⟩ := k.run n s hs
  exact ⟨thenN p r, hp.then hr, by rw [← ren_ren (hs.mv w).r (hs.mv w).u hp hr, e, e2]⟩⟩
theorem Eqv.app (h : Eqv w w') (u : Row) : Eqv (w ++ u) (w' ++ u) := ⟨fun n s hs => by
  obtain ⟨p, hp, e⟩ := h.run n s hs
  exact ⟨p, hp, by rw [mvS_app, mvS_app, ← e, mv_ren (hs.mv w) hp]⟩⟩
theorem Eqv.pre (u : Row) (h : Eqv w w') : Eqv (u ++ w) (u ++ w') := ⟨fun n s hs => by
  obtain ⟨p, hp, e⟩ := h.run n (mvS s u) (hs.mv u)
  exact ⟨p, hp, by rw [mvS_app, mvS_app, e]⟩⟩
theorem Eqv.mid (u : Row) (h : Eqv w w') (v : Row) : Eqv (u ++ w ++ v) (u ++ w' ++ v) := (h.pre u).app v
/-! the relations -/
theorem e_sh (x y : Int) : Eqv [sh x, sh y] [sh (x + y)] := .of fun n s hs => shS_add hs x y
theorem e_sh0 : Eqv [sh 0] [] := .of fun n s hs => shS_zero hs
theorem tu_eq (s : Nm × Nm) (x : Int) : mvS s [tu x] = tuZ s x := rfl
theorem e_tu (x y : Int) : Eqv [tu x, tu y] [tu (x + y)] := .of fun n s hs => tuZ_add hs x y
theorem e_sh' {x y z : Int} (h : x + y = z) : Eqv [sh x, sh y] [sh z] := h ▸ e_sh x y
theorem e_tu' {x y z : Int} (h : x + y = z) : Eqv [tu x, tu y] [tu z] := h ▸ e_tu x y
theorem e_tu4 : Eqv [tu 4] [] := .of fun n s hs => by rw [tu_eq]; rfl
/-- turned twice, then sheared, is sheared, then turned twice -/
theorem e_com (x : Int) : Eqv [tu 2, sh x] [sh x, tu 2] := ⟨fun n s hs => by
  have hr := hs.r
  have hu := hs.u
  have hp := hr.pwZ (-x)
  have e1 : mvS s [tu 2, sh x] = (backN s.1, thenN (backN s.2) (pwZ s.1 x)) := by
    show (backN s.1, thenN (backN s.2) (pwZ (backN s.1) (-x))) = _
    congr 2
    have := back_pwZ hr.back (-x)
    have h2 : pwZ (backN s.1) (-x) = pwZ s.1 x := by
      have key : ∀ k : Nat, pwZ (backN s.1) (k : Int) = pwZ s.1 (-(k : Int)) := fun k => by
        induction k with
        | zero => rw [show ((0 : Nat) : Int) = 0 from rfl, Int.neg_zero, pwZ_zero hr.back, pwZ_zero hr]
        | succ k ih => rw [show ((k + 1 : Nat) : Int) = (k : Int) + 1 from rfl, pwZ_succ hr.back, ih, show -((k : Int) + 1) = -(k : Int) - 1 by omega, pwZ_pred hr]
      by_cases h : 0 ≤ -x
      · obtain ⟨k, hk⟩ := Int.eq_ofNat_of_zero_le h
        rw [hk, key k, ← hk, Int.neg_neg]
      · obtain ⟨k, hk⟩ := Int.eq_ofNat_of_zero_le (show 0 ≤ x by omega)
        have h3 := back_pwZ hr.back (k : Int)
        rw [key k, back_pwZ hr, Int.neg_neg] at h3
        rw [hk]
        exact h3.symm
    exact h2
  have e2 : mvS s [sh x, tu 2] = (backN s.1, thenN (pwZ s.1 x) (backN s.2)) := by
    show (backN s.1, backN (thenN s.2 (pwZ s.1 (-x)))) = _
    rw [back_of_then hu hp, back_pwZ hr, Int.neg_neg]
  refine ⟨pwZ s.1 (-x), hp, ?_⟩
  rw [e1, e2]
  have hb : backN (pwZ s.1 (-x)) = pwZ s.1 x := by rw [back_pwZ hr, Int.neg_neg]
  have hq := hr.pwZ x
  show (thenN (thenN (backN (pwZ s.1 (-x))) (backN s.1)) (pwZ s.1 (-x)), thenN (thenN (backN (pwZ s.1 (-x))) (thenN (backN s.2) (pwZ s.1 x))) (pwZ s.1 (-x))) = _
  rw [hb, Prod.mk.injEq]
  refine ⟨?_, ?_⟩
  · rw [← pwZ_m1 hr, ← pwZ_add hr, ← pwZ_add hr, show x + -1 + -x = -1 by omega]
  · rw [then_assoc hq (hu.back.then hq) hp, then_assoc hu.back hq hp, ← pwZ_add hr, show x + -x = 0 by omega, pwZ_zero hr, then_id hu.back]⟩
/-- thrice sheared and turned is turned twice -/
theorem e_six : Eqv [sh 1, tu 1, sh 1, tu 1, sh 1, tu 1] [tu 2] := ⟨fun n s hs => by
  have hr := hs.r
  have hu := hs.u
  have one : ∀ {s : Nm × Nm}, Surf n s → mvS s [sh 1, tu 1] = (thenN s.1 (backN s.2), s.1) := fun {s} hs => by
    show (backN (thenN s.2 (pwZ s.1 (-1))), s.1) = _
    rw [pwZ_m1 hs.r, back_of_then hs.u hs.r.back, hs.r.back_back]
  have e1 : mvS s [sh 1, tu 1, sh 1, tu 1, sh 1, tu 1] = mvS (mvS (mvS s [sh 1, tu 1]) [sh 1, tu 1]) [sh 1, tu 1] := rfl
  have h1 := hs.mv [sh 1, tu 1]
  have h2 := h1.mv [sh 1, tu 1]
  have ru := hr.then hu.back
  have bu : backN (thenN s.1 (backN s.2)) = thenN s.2 (backN s.1) := by rw [back_of_then hr hu.back, hu.back_back]
  refine ⟨thenN s.1 (backN s.2), ru, ?_⟩
  rw [e1, one h2, one h1, one hs]
  show renS (thenN (thenN (thenN s.1 (backN s.2)) (backN s.1)) (backN (thenN s.1 (backN s.2))), thenN (thenN s.1 (backN s.2)) (backN s.1)) (thenN s.1 (backN s.2)) = (backN s.1, backN s.2)
  show (thenN (thenN (backN (thenN s.1 (backN s.2))) (thenN (thenN (thenN s.1 (backN s.2)) (backN s.1)) (backN (thenN s.1 (backN s.2))))) (thenN s.1 (backN s.2)), thenN (thenN (backN (thenN s.1 (backN s.2))) (thenN (thenN s.1 (backN s.2)) (backN s.1))) (thenN s.1 (backN s.2))) = _
  have k1 := ru.back
  rw [Prod.mk.injEq]
  refine ⟨?_, ?_⟩
  · rw [then_assoc ru hr.back k1, ← then_assoc k1 ru (hr.back.then k1), back_then ru, id_then (hr.back.then k1), then_assoc hr.back k1 ru, back_then ru, then_id hr.back]
  · rw [← then_assoc k1 ru hr.back, back_then ru, id_then hr.back, ← then_assoc hr.back hr hu.back, back_then hr, id_then hu.back]⟩
/-! rows made from these -/
theorem e_five : Eqv [sh 1, tu 1, sh 1, tu 1, sh 1] [tu 1] := by
  have h : Eqv ([sh 1, tu 1, sh 1, tu 1, sh 1] ++ [tu 1, tu 3]) ([tu 2] ++ [tu 3]) := by
    have := e_six.app [tu 3]
    exact this
  have h1 : Eqv ([sh 1, tu 1, sh 1, tu 1, sh 1] ++ [tu 1, tu 3]) ([sh 1, tu 1, sh 1, tu 1, sh 1] ++ []) := ((e_tu' (by decide : (1 : Int) + 3 = 4)).trans e_tu4).pre _
  have h2 : Eqv [tu 2, tu 3] [tu 1] := (e_tu' (by decide : (2 : Int) + 3 = 5)).trans (.of fun n s hs => by rw [tu_eq, tu_eq]; rfl)
  rw [List.append_nil] at h1
  exact h1.symm.trans (h.trans h2)
end
end SG


set_option Elab.async false
set_option linter.all false
set_option maxRecDepth 100000
set_option maxHeartbeats 4000000
namespace SG
open PySem PySem.Spec L2
open PyProof.Rows hiding St
/-! ### tables -/
/-- a table: (a, b, c, d) -/
structure Tb where
  a : Int
  b : Int
  c : Int
  d : Int
/-- one table, then another one -/
def Tb.then (x y : Tb) : Tb := ⟨y.a * x.a + y.b * x.c, y.a * x.b + y.b * x.d, y.c * x.a + y.d * x.c, y.c * x.b + y.d * x.d⟩
def Tb.one : Tb := ⟨1, 0, 0, 1⟩
def qtr (k : Int) : Tb := if k % 4 = 0 then ⟨1, 0, 0, 1⟩ else if k % 4 = 1 then ⟨0, -1, 1, 0⟩ else if k % 4 = 2 then ⟨-1, 0, 0, -1⟩ else ⟨0, 1, -1, 0⟩
def gen (g : Bool × Int) : Tb := if g.1 then ⟨1, g.2, 0, 1⟩ else qtr g.2
def tab (w : Row) : Tb := w.foldl (fun x g => x.then (gen g)) Tb.one
def Tb.Ok (x : Tb) : Prop := x.a * x.d - x.b * x.c = 1
theorem Tb.ext' {x y : Tb} (h1 : x.a = y.a) (h2 : x.b = y.b) (h3 : x.c = y.c) (h4 : x.d = y.d) : x = y := by
  cases x; cases y; simp only at *; subst h1 h2 h3 h4; rfl
theorem Tb.then_assoc (x y z : Tb) : (x.then y).then z = x.then (y.then z) := by
  apply Tb.ext' <;> simp only [Tb.then, Int.mul_add, Int.add_mul, Int.mul_assoc] <;> omega
theorem Tb.one_then (x : Tb) : Tb.one.then x = x := by
  apply Tb.ext' <;> simp [Tb.then, Tb.one]
theorem Tb.then_one (x : Tb) : x.then Tb.one = x := by
  apply Tb.ext' <;> simp [Tb.then, Tb.one]
theorem tab_nil : tab [] = Tb.one := rfl
theorem tab_snoc (w : Row) (g : Bool × Int) : tab (w ++ [g]) = (tab w).then (gen g) := by unfold tab; rw [List.foldl_append]; rfl
theorem fold_then : ∀ (v : Row) (x : Tb), v.foldl (fun x g => x.then (gen g)) x = x.then (tab v)
  | [], x => (Tb.then_one x).symm
  | g :: v, x => by
    show v.foldl _ (x.then (gen g)) = x.then (v.foldl _ (Tb.one.then (gen g)))
    rw [fold_then v, fold_then v, Tb.one_then, Tb.then_assoc]
theorem tab_app (w v : Row) : tab (w ++ v) = (tab w).then (tab v) := by
  show (w ++ v).foldl _ _ = _
  rw [List.foldl_append, fold_then v]
  rfl
/-- turned twice: all signs changed -/
def Tb.neg (x : Tb) : Tb := ⟨-x.a, -x.b, -x.c, -x.d⟩
/-- sheared -/
def Tb.sh (x : Tb) (k : Int) : Tb := ⟨x.a + k * x.c, x.b + k * x.d, x.c, x.d⟩
/-- turned by a quarter; back -/
def Tb.tu (x : Tb) : Tb := ⟨-x.c, -x.d, x.a, x.b⟩
def Tb.ut (x : Tb) : Tb := ⟨x.c, x.d, -x.a, -x.b⟩
theorem then_sh (x : Tb) (k : Int) : x.then (gen (SG.sh k)) = x.sh k := by
  apply Tb.ext' <;> simp [Tb.then, gen, Tb.sh]
theorem then_tu (x : Tb) : x.then (gen (SG.tu 1)) = x.tu := by
  apply Tb.ext' <;> simp [Tb.then, gen, qtr, Tb.tu]
theorem Tb.Ok.sh {x : Tb} (h : x.Ok) (k : Int) : (x.sh k).Ok := by
  unfold Tb.Ok Tb.sh at *
  simp only [Int.add_mul, Int.mul_assoc]
  rw [Int.mul_comm x.d x.c]
  omega
theorem Tb.Ok.tu {x : Tb} (h : x.Ok) : x.tu.Ok := by
  unfold Tb.Ok Tb.tu at *
  simp only [Int.neg_mul]
  rw [Int.mul_comm x.c x.b, Int.mul_comm x.d x.a]
  omega
theorem Tb.Ok.ut {x : Tb} (h : x.Ok) : x.ut.Ok := by
  unfold Tb.Ok Tb.ut at *
  simp only [Int.mul_neg]
  rw [Int.mul_comm x.c x.b, Int.mul_comm x.d x.a]
  omega
theorem Tb.Ok.neg {x : Tb} (h : x.Ok) : x.neg.Ok := by
  unfold Tb.Ok Tb.neg at *
  simp only [Int.neg_mul_neg]
  exact h
theorem Tb.ut_tu (x : Tb) : x.ut.tu = x := by apply Tb.ext' <;> simp [Tb.ut, Tb.tu]
theorem Tb.tu_ut (x : Tb) : x.tu.ut = x := by apply Tb.ext' <;> simp [Tb.ut, Tb.tu]
theorem Tb.ut_neg (x : Tb) : x.ut.neg = x.tu := by apply Tb.ext' <;> simp [Tb.ut, Tb.tu, Tb.neg]
theorem Tb.sh_sh (x : Tb) (k l : Int) : (x.sh k).sh l = x.sh (k + l) := by
  apply Tb.ext' <;> simp only [Tb.sh, Int.add_mul] <;> omega
theorem Tb.sh_zero (x : Tb) : x.sh 0 = x := by apply Tb.ext' <;> simp [Tb.sh]
theorem Tb.neg_sh (x : Tb) (k : Int) : (x.sh k).neg = x.neg.sh k := by
  apply Tb.ext' <;> simp only [Tb.sh, Tb.neg, Int.mul_neg] <;> omega
theorem Tb.neg_neg (x : Tb) : x.neg.neg = x := by apply Tb.ext' <;> simp [Tb.neg]
theorem Tb.neg_ut (x : Tb) : x.ut.neg = x.neg.ut := by apply Tb.ext' <;> simp [Tb.ut, Tb.neg]
/-! ### a row for each table, by whole parts -/
theorem fl_lt {a c : Int} (hc : c ≠ 0) : (-(a + -(a.fdiv c) * c)).natAbs < c.natAbs := by
  have h := Int.mul_fdiv_add_fmod a c
  have e : a + -(a.fdiv c) * c = a.fmod c := by
    rw [Int.neg_mul, Int.mul_comm (a.fdiv c) c]
    omega
  rw [e, Int.natAbs_neg]
  rcases Int.lt_trichotomy c 0 with h1 | h1 | h1
  · have e : (-a).fmod (-c) = -(a.fmod c) := Int.neg_fmod_neg a c
    have := Int.fmod_nonneg_of_pos (-a) (show 0 < -c by omega)
    have := Int.fmod_lt_of_pos (-a) (show 0 < -c by omega)
    omega
  · exact absurd h1 hc
  · have := Int.fmod_nonneg_of_pos a h1
    have := Int.fmod_lt_of_pos a h1
    omega
def nrm (x : Tb) : Row := if h : x.c = 0 then (if x.a = 1 then [SG.sh x.b] else [SG.sh (-x.b), SG.tu 2]) else nrm (x.sh (-(x.a.fdiv x.c))).ut ++ [SG.tu 1, SG.sh (x.a.fdiv x.c)]
termination_by x.c.natAbs
decreasing_by exact fl_lt h
end SG


set_option Elab.async false
set_option linter.all false
set_option maxRecDepth 100000
set_option maxHeartbeats 4000000
namespace SG
open PySem PySem.Spec L2
open PyProof.Rows hiding St
/-! ### each row leads where its table's row leads -/
section
variable {w w' v u : Row} {x : Tb} {k : Int}
theorem nrm_zero (h : x.c = 0) : nrm x = if x.a = 1 then [SG.sh x.b] else [SG.sh (-x.b), SG.tu 2] := by rw [nrm, dif_pos h]
theorem nrm_step (h : x.c ≠ 0) : nrm x = nrm (x.sh (-(x.a.fdiv x.c))).ut ++ [SG.tu 1, SG.sh (x.a.fdiv x.c)] := by rw [nrm, dif_neg h]
theorem one_or (hx : x.Ok) (h : x.c = 0) : (x.a = 1 ∧ x.d = 1) ∨ (x.a = -1 ∧ x.d = -1) := by
  unfold Tb.Ok at hx
  rw [h, Int.mul_zero, Int.sub_zero] at hx
  have h1 := congrArg Int.natAbs hx
  rw [Int.natAbs_mul] at h1
  have h2 : x.a.natAbs = 1 := Nat.eq_one_of_mul_eq_one_right h1
  rcases (show x.a = 1 ∨ x.a = -1 by omega) with a | a
  · rw [a, Int.one_mul] at hx
    exact .inl ⟨a, hx⟩
  · rw [a] at hx
    exact .inr ⟨a, by omega⟩
theorem e_tt : Eqv [SG.tu 2, SG.tu 2] [] := (e_tu' (by decide : (2 : Int) + 2 = 4)).trans e_tu4
theorem nrm_sh (hx : x.Ok) (k : Int) : Eqv (nrm (x.sh k)) (nrm x ++ [SG.sh k]) := by
  by_cases h : x.c = 0
  · have h2 : (x.sh k).c = 0 := h
    have ea : (x.sh k).a = x.a := by show x.a + k * x.c = x.a; rw [h]; omega
    have eb : (x.sh k).b = x.b + k * x.d := rfl
    rw [nrm_zero h2, nrm_zero h, ea, eb]
    rcases one_or hx h with ⟨ha, hd⟩ | ⟨ha, hd⟩
    · rw [if_pos ha, if_pos ha, hd, Int.mul_one]
      exact (e_sh x.b k).symm
    · rw [if_neg (by omega), if_neg (by omega), hd]
      have h1 : Eqv ([SG.sh (-x.b)] ++ [SG.tu 2, SG.sh k]) ([SG.sh (-x.b)] ++ [SG.sh k, SG.tu 2]) := (e_com k).pre _
      have h2 : Eqv ([SG.sh (-x.b), SG.sh k] ++ [SG.tu 2]) ([SG.sh (-x.b + k)] ++ [SG.tu 2]) := (e_sh _ _).app _
      rw [show -(x.b + k * -1) = -x.b + k by omega]
      exact (h1.trans h2).symm
  · have h2 : (x.sh k).c ≠ 0 := h
    have ef : (x.sh k).a.fdiv (x.sh k).c = x.a.fdiv x.c + k := by
      show (x.a + k * x.c).fdiv x.c = _
      exact Int.add_mul_fdiv_right _ _ h
    rw [nrm_step h2, nrm_step h, ef, Tb.sh_sh, show k + -(x.a.fdiv x.c + k) = -(x.a.fdiv x.c) by omega, List.append_assoc]
    refine Eqv.pre _ ?_
    exact (Eqv.pre [SG.tu 1] (e_sh _ _)).symm
theorem nrm_neg : ∀ (m : Nat) (x : Tb), x.c.natAbs ≤ m → x.Ok → Eqv (nrm x.neg) (nrm x ++ [SG.tu 2]) := by
  intro m
  induction m with
  | zero =>
    intro x hm hx
    have h : x.c = 0 := by omega
    have h2 : x.neg.c = 0 := by show -x.c = 0; omega
    have ea : x.neg.a = -x.a := rfl
    have eb : x.neg.b = -x.b := rfl
    rw [nrm_zero h2, nrm_zero h, ea, eb]
    rcases one_or hx h with ⟨ha, hd⟩ | ⟨ha, hd⟩
    · rw [if_neg (by omega), if_pos ha, Int.neg_neg]
      exact Eqv.refl _
    · rw [if_pos (by omega), if_neg (by omega)]
      have := Eqv.pre [SG.sh (-x.b)] e_tt
      exact this.symm
  | succ m ih =>
    intro x hm hx
    by_cases h : x.c = 0
    · have h2 : x.neg.c = 0 := by show -x.c = 0; omega
      have ea : x.neg.a = -x.a := rfl
      have eb : x.neg.b = -x.b := rfl
      rw [nrm_zero h2, nrm_zero h, ea, eb]
      rcases one_or hx h with ⟨ha, hd⟩ | ⟨ha, hd⟩
      · rw [if_neg (by omega), if_pos ha, Int.neg_neg]
        exact Eqv.refl _
      · rw [if_pos (by omega), if_neg (by omega)]
        have := Eqv.pre [SG.sh (-x.b)] e_tt
        exact this.symm
    · have h2 : x.neg.c ≠ 0 := by show -x.c ≠ 0; omega
      have ef : x.neg.a.fdiv x.neg.c = x.a.fdiv x.c := Int.neg_fdiv_neg x.a x.c
      have hlt : (x.sh (-(x.a.fdiv x.c))).ut.c.natAbs < x.c.natAbs := fl_lt h
      have := ih (x.sh (-(x.a.fdiv x.c))).ut (by omega) (hx.sh _).ut
      rw [nrm_step h2, nrm_step h, ef, ← Tb.neg_sh, ← Tb.neg_ut, List.append_assoc]
      refine (this.app _).trans ?_
      rw [List.append_assoc]
      refine Eqv.pre _ ?_
      have h1 : Eqv ([SG.tu 2, SG.tu 1] ++ [SG.sh (x.a.fdiv x.c)]) ([SG.tu 1, SG.tu 2] ++ [SG.sh (x.a.fdiv x.c)]) := ((e_tu' (by decide : (2 : Int) + 1 = 3)).trans (e_tu' (by decide : (1 : Int) + 2 = 3)).symm).app _
      have h2 : Eqv ([SG.tu 1] ++ [SG.tu 2, SG.sh (x.a.fdiv x.c)]) ([SG.tu 1] ++ [SG.sh (x.a.fdiv x.c), SG.tu 2]) := (e_com _).pre _
      exact h1.trans h2
theorem neg_row (hx : x.Ok) : Eqv (nrm x.neg) (nrm x ++ [SG.tu 2]) := nrm_neg _ x (Nat.le_refl _) hx
theorem fdiv_is {a c q : Int} (hc : 0 < c) (h1 : q * c ≤ a) (h2 : a < q * c + c) : a.fdiv c = q := by
  have := Int.add_mul_fdiv_right (a - q * c) q (show c ≠ 0 by omega)
  rw [show a - q * c + q * c = a by omega] at this
  rw [this, Int.fdiv_eq_ediv_of_nonneg _ (by omega), Int.ediv_eq_zero_of_lt (by omega) (by omega)]
  omega
/-- the two candidates -/
theorem two_cand : ∀ (m : Nat) (x : Tb), x.c.toNat ≤ m → x.Ok → 0 ≤ x.a → x.a < x.c → Eqv (nrm x.ut ++ [SG.tu 1]) (nrm (x.sh (-1)).ut ++ [SG.tu 1, SG.sh 1]) := by
  intro m
  induction m with
  | zero => intro x hm hx h1 h2; omega
  | succ m ih =>
    intro x hm hx h1 h2
    have m2 : (x.sh (-1)).ut = ⟨x.c, x.d, x.c - x.a, x.d - x.b⟩ := by
      apply Tb.ext' <;> simp only [Tb.sh, Tb.ut] <;> omega
    by_cases h : 2 * x.a < x.c
    · have hc : (x.sh (-1)).ut.c ≠ 0 := by rw [m2]; show x.c - x.a ≠ 0; omega
      have ef : (x.sh (-1)).ut.a.fdiv (x.sh (-1)).ut.c = 1 := by
        rw [m2]
        exact fdiv_is (show 0 < x.c - x.a by omega) (show 1 * (x.c - x.a) ≤ x.c by omega) (show x.c < 1 * (x.c - x.a) + (x.c - x.a) by omega)
      have ev : ((x.sh (-1)).ut.sh (-1)).ut = x.ut.sh 1 := by
        apply Tb.ext' <;> simp only [Tb.sh, Tb.ut] <;> omega
      rw [nrm_step hc, ef, ev]
      have k1 := (nrm_sh hx.ut 1).app [SG.tu 1, SG.sh 1, SG.tu 1, SG.sh 1]
      rw [List.append_assoc] at k1
      rw [List.append_assoc]
      exact ((Eqv.pre (nrm x.ut) e_five).symm).trans k1.symm
    · -- the smaller one by the hypothesis
      have hp : x.ut.neg.Ok := hx.ut.neg
      have hB : (x.ut.neg.sh 2).Ok := hp.sh 2
      have hBa : (x.ut.neg.sh 2).a = 2 * x.a - x.c := by simp only [Tb.sh, Tb.ut, Tb.neg]; omega
      have hBc : (x.ut.neg.sh 2).c = x.a := by simp only [Tb.sh, Tb.ut, Tb.neg]; omega
      have F := ih (x.ut.neg.sh 2) (by rw [hBc]; omega) hB (by rw [hBa]; omega) (by rw [hBa, hBc]; omega)
      rw [Tb.sh_sh] at F
      have hPc : x.ut.neg.c ≠ 0 := by show -(-x.a) ≠ 0; omega
      have ef : x.ut.neg.a.fdiv x.ut.neg.c = -2 := by
        have e1 : x.ut.neg.a = -x.c := rfl
        have e2 : x.ut.neg.c = x.a := by show -(-x.a) = x.a; omega
        rw [e1, e2]
        exact fdiv_is (by omega) (by omega) (by omega)
      have eP : nrm x.ut.neg = nrm (x.ut.neg.sh 2).ut ++ [SG.tu 1, SG.sh (-2)] := by
        have := nrm_step hPc
        rw [ef] at this
        exact this
      -- R
      have eR : (x.ut.neg.sh (2 + -1)).ut = ⟨x.a, x.b, x.c - x.a, x.d - x.b⟩ := by
        apply Tb.ext' <;> simp only [Tb.sh, Tb.ut, Tb.neg] <;> omega
      rw [eR] at F
      have hR : Tb.Ok ⟨x.a, x.b, x.c - x.a, x.d - x.b⟩ := by
        rw [← eR]; exact (hp.sh _).ut
      have eM2 : (x.sh (-1)).ut = Tb.sh ⟨x.a, x.b, x.c - x.a, x.d - x.b⟩ 1 := by
        apply Tb.ext' <;> simp only [Tb.sh, Tb.ut] <;> omega
      -- nrm P ≈ R, turned, sheared back
      have P1 : Eqv (nrm x.ut.neg) (nrm ⟨x.a, x.b, x.c - x.a, x.d - x.b⟩ ++ [SG.tu 1, SG.sh (-1)]) := by
        rw [eP]
        have k1 := F.app [SG.sh (-2)]
        rw [List.append_assoc, List.append_assoc] at k1
        refine k1.trans (Eqv.pre _ ?_)
        exact Eqv.pre [SG.tu 1] (e_sh' (by decide : (1 : Int) + -2 = -1))
      have M1 : Eqv (nrm x.ut) (nrm ⟨x.a, x.b, x.c - x.a, x.d - x.b⟩ ++ [SG.tu 1, SG.sh (-1), SG.tu 2]) := by
        have := neg_row hp
        rw [Tb.neg_neg] at this
        refine this.trans ?_
        have k1 := P1.app [SG.tu 2]
        rw [List.append_assoc] at k1
        exact k1
      have L1 : Eqv (nrm x.ut ++ [SG.tu 1]) (nrm ⟨x.a, x.b, x.c - x.a, x.d - x.b⟩ ++ [SG.tu 1, SG.sh (-1), SG.tu 3]) := by
        have k1 := M1.app [SG.tu 1]
        rw [List.append_assoc] at k1
        refine k1.trans (Eqv.pre _ ?_)
        exact Eqv.pre [SG.tu 1, SG.sh (-1)] (e_tu' (by decide : (2 : Int) + 1 = 3))
      have R1 : Eqv (nrm (x.sh (-1)).ut ++ [SG.tu 1, SG.sh 1]) (nrm ⟨x.a, x.b, x.c - x.a, x.d - x.b⟩ ++ [SG.sh 1, SG.tu 1, SG.sh 1]) := by
        rw [eM2]
        have k1 := (nrm_sh hR 1).app [SG.tu 1, SG.sh 1]
        rw [List.append_assoc] at k1
        exact k1
      have key : Eqv [SG.tu 1, SG.sh (-1), SG.tu 3] [SG.sh 1, SG.tu 1, SG.sh 1] := by
        have k1 := e_five.app [SG.sh (-1), SG.tu 3]
        have k2 : Eqv ([SG.sh 1, SG.tu 1, SG.sh 1, SG.tu 1] ++ [SG.sh 1, SG.sh (-1)] ++ [SG.tu 3]) ([SG.sh 1, SG.tu 1, SG.sh 1, SG.tu 1] ++ [] ++ [SG.tu 3]) := Eqv.mid _ ((e_sh' (by decide : (1 : Int) + -1 = 0)).trans e_sh0) _
        have k3 : Eqv ([SG.sh 1, SG.tu 1, SG.sh 1] ++ [SG.tu 1, SG.tu 3]) ([SG.sh 1, SG.tu 1, SG.sh 1] ++ []) := Eqv.pre _ ((e_tu' (by decide : (1 : Int) + 3 = 4)).trans e_tu4)
        exact k1.symm.trans (k2.trans k3)
      exact (L1.trans (Eqv.pre _ key)).trans R1.symm
/-- where the whole part is 0, or -1 -/
theorem cand_zero_pos (hx : x.Ok) (hc : 0 < x.c) (h1 : -x.c ≤ x.a) (h2 : x.a < x.c) : Eqv (nrm x) (nrm x.ut ++ [SG.tu 1]) := by
  by_cases h : 0 ≤ x.a
  · have ef : x.a.fdiv x.c = 0 := fdiv_is hc (by omega) (by omega)
    have := nrm_step (x := x) (by omega)
    rw [ef, show (-(0 : Int)) = 0 from rfl, Tb.sh_zero] at this
    rw [this]
    have k1 := Eqv.pre (nrm x.ut ++ [SG.tu 1]) e_sh0
    rw [List.append_nil, List.append_assoc] at k1
    exact k1
  · have ef : x.a.fdiv x.c = -1 := fdiv_is hc (by omega) (by omega)
    have := nrm_step (x := x) (by omega)
    rw [ef, show (-(-1 : Int)) = 1 from rfl] at this
    have ha : (x.sh 1).a = x.a + x.c := by simp only [Tb.sh]; omega
    have F := two_cand _ (x.sh 1) (Nat.le_refl _) (hx.sh 1) (by rw [ha]; omega) (by rw [ha]; show x.a + x.c < x.c; omega)
    rw [Tb.sh_sh, show (1 : Int) + -1 = 0 from rfl, Tb.sh_zero] at F
    rw [this]
    have k1 := F.app [SG.sh (-1)]
    rw [List.append_assoc, List.append_assoc] at k1
    refine k1.trans (Eqv.pre _ ?_)
    have k2 := Eqv.pre [SG.tu 1] ((e_sh' (by decide : (1 : Int) + -1 = 0)).trans e_sh0)
    exact k2
theorem cand_at (hx : x.Ok) (h : (0 < x.c ∧ -x.c ≤ x.a ∧ x.a < x.c) ∨ (x.c < 0 ∧ x.c ≤ -x.a ∧ -x.a < -x.c)) : Eqv (nrm x) (nrm x.ut ++ [SG.tu 1]) := by
  rcases h with ⟨h1, h2, h3⟩ | ⟨h1, h2, h3⟩
  · exact cand_zero_pos hx h1 h2 h3
  · have K := cand_zero_pos (x := x.neg) hx.neg (by show 0 < -x.c; omega) (by show -(-x.c) ≤ -x.a; omega) (by show -x.a < -x.c; omega)
    rw [← Tb.neg_ut] at K
    have k1 := (neg_row hx).symm.trans (K.trans ((neg_row hx.ut).app [SG.tu 1]))
    have k2 := k1.app [SG.tu 2]
    rw [List.append_assoc, List.append_assoc, List.append_assoc] at k2
    have k3 := Eqv.pre (nrm x) e_tt
    rw [List.append_nil] at k3
    refine k3.symm.trans (k2.trans (Eqv.pre _ ?_))
    have k4 : Eqv ([SG.tu 2, SG.tu 1] ++ [SG.tu 2]) ([SG.tu 3] ++ [SG.tu 2]) := (e_tu' (by decide : (2 : Int) + 1 = 3)).app _
    refine k4.trans ((e_tu' (by decide : (3 : Int) + 2 = 5)).trans ?_)
    exact .of fun n s hs => by rw [tu_eq, tu_eq]; rfl
theorem nrm_tu (hx : x.Ok) : Eqv (nrm x.tu) (nrm x ++ [SG.tu 1]) := by
  have hne : x.a ≠ 0 ∨ x.c ≠ 0 := by
    apply Classical.byContradiction
    intro h
    have ha : x.a = 0 := by omega
    have hc : x.c = 0 := by omega
    unfold Tb.Ok at hx
    rw [ha, hc] at hx
    simp at hx
  by_cases h : (0 < x.a ∧ -x.a ≤ -x.c ∧ -x.c < x.a) ∨ (x.a < 0 ∧ x.a ≤ -(-x.c) ∧ -(-x.c) < -x.a)
  · have := cand_at (x := x.tu) hx.tu h
    rw [Tb.tu_ut] at this
    exact this
  · have h2 : (0 < x.c ∧ -x.c ≤ x.a ∧ x.a < x.c) ∨ (x.c < 0 ∧ x.c ≤ -x.a ∧ -x.a < -x.c) := by omega
    have K := (cand_at hx h2).app [SG.tu 1]
    rw [List.append_assoc] at K
    have k1 := neg_row hx.ut
    rw [Tb.ut_neg] at k1
    have k2 : Eqv (nrm x.ut ++ [SG.tu 1, SG.tu 1]) (nrm x.ut ++ [SG.tu 2]) := Eqv.pre _ (e_tu' (by decide : (1 : Int) + 1 = 2))
    exact k1.trans (K.trans k2).symm
theorem then_tuk (x : Tb) (k : Int) : (k % 4 = 0 ∧ x.then (gen (SG.tu k)) = x) ∨ (k % 4 = 1 ∧ x.then (gen (SG.tu k)) = x.tu) ∨ (k % 4 = 2 ∧ x.then (gen (SG.tu k)) = x.tu.tu) ∨ (k % 4 = 3 ∧ x.then (gen (SG.tu k)) = x.tu.tu.tu) := by
  have : k % 4 = 0 ∨ k % 4 = 1 ∨ k % 4 = 2 ∨ k % 4 = 3 := by omega
  rcases this with h | h | h | h
  · refine .inl ⟨h, ?_⟩
    show x.then (qtr k) = x
    unfold qtr
    rw [if_pos h]
    exact Tb.then_one x
  · refine .inr (.inl ⟨h, ?_⟩)
    show x.then (qtr k) = _
    unfold qtr
    rw [if_neg (by omega), if_pos h]
    exact then_tu x
  · refine .inr (.inr (.inl ⟨h, ?_⟩))
    show x.then (qtr k) = _
    unfold qtr
    rw [if_neg (by omega), if_neg (by omega), if_pos h]
    apply Tb.ext' <;> simp [Tb.then, Tb.tu]
  · refine .inr (.inr (.inr ⟨h, ?_⟩))
    show x.then (qtr k) = _
    unfold qtr
    rw [if_neg (by omega), if_neg (by omega), if_neg (by omega)]
    apply Tb.ext' <;> simp [Tb.then, Tb.tu]
theorem Tb.Ok.gen {x : Tb} (h : x.Ok) (g : Bool × Int) : (x.then (SG.gen g)).Ok := by
  obtain ⟨b, k⟩ := g
  cases b with
  | true => rw [show (true, k) = SG.sh k from rfl, then_sh]; exact h.sh k
  | false =>
    rcases then_tuk x k with ⟨_, e⟩ | ⟨_, e⟩ | ⟨_, e⟩ | ⟨_, e⟩
    · rw [show (false, k) = SG.tu k from rfl, e]; exact h
    · rw [show (false, k) = SG.tu k from rfl, e]; exact h.tu
    · rw [show (false, k) = SG.tu k from rfl, e]; exact h.tu.tu
    · rw [show (false, k) = SG.tu k from rfl, e]; exact h.tu.tu.tu
theorem e_mod (k l : Int) (h : k % 4 = l % 4) : Eqv [SG.tu k] [SG.tu l] := .of fun n s hs => by
  rw [tu_eq, tu_eq]
  unfold tuZ
  rw [h]
theorem nrm_gen (hx : x.Ok) (g : Bool × Int) : Eqv (nrm (x.then (SG.gen g))) (nrm x ++ [g]) := by
  obtain ⟨b, k⟩ := g
  cases b with
  | true => rw [show (true, k) = SG.sh k from rfl, then_sh]; exact nrm_sh hx k
  | false =>
    show Eqv (nrm (x.then (SG.gen (SG.tu k)))) (nrm x ++ [SG.tu k])
    rcases then_tuk x k with ⟨h, e⟩ | ⟨h, e⟩ | ⟨h, e⟩ | ⟨h, e⟩
    · rw [e]
      have := Eqv.pre (nrm x) ((e_mod k 4 (by omega)).trans e_tu4)
      rw [List.append_nil] at this
      exact this.symm
    · rw [e]
      exact (nrm_tu hx).trans (Eqv.pre _ (e_mod 1 k (by omega)))
    · rw [e]
      have k1 := (nrm_tu hx.tu).trans ((nrm_tu hx).app _)
      rw [List.append_assoc] at k1
      exact k1.trans (Eqv.pre _ ((e_tu' (by decide : (1 : Int) + 1 = 2)).trans (e_mod _ k (by omega))))
    · rw [e]
      have k1 := (nrm_tu hx.tu.tu).trans (((nrm_tu hx.tu).trans ((nrm_tu hx).app _)).app _)
      rw [List.append_assoc, List.append_assoc] at k1
      refine k1.trans (Eqv.pre _ ?_)
      have k2 : Eqv ([SG.tu 1, SG.tu 1] ++ [SG.tu 1]) ([SG.tu 2] ++ [SG.tu 1]) := (e_tu' (by decide : (1 : Int) + 1 = 2)).app _
      exact k2.trans ((e_tu' (by decide : (2 : Int) + 1 = 3)).trans (e_mod _ k (by omega)))
theorem one_ok : Tb.one.Ok := by show (1 : Int) * 1 - 0 * 0 = 1; decide
theorem tab_ok (w : Row) : (tab w).Ok := by
  have key : ∀ (v : Row) (x : Tb), x.Ok → (v.foldl (fun x g => x.then (SG.gen g)) x).Ok := fun v => by
    induction v with
    | nil => exact fun x h => h
    | cons g v ih => exact fun x h => ih _ (h.gen g)
  exact key w _ one_ok
theorem nrm_tab (w : Row) : Eqv (nrm (tab w)) w := by
  have key : ∀ (v u : Row), Eqv (nrm (tab u)) u → Eqv (nrm (tab (u ++ v))) (u ++ v) := fun v => by
    induction v with
    | nil => intro u h; rw [List.append_nil]; exact h
    | cons g v ih =>
      intro u h
      have := ih (u ++ [g]) (by rw [tab_snoc]; exact (nrm_gen (tab_ok u) g).trans (h.app _))
      rw [List.append_assoc] at this
      exact this
  refine key w [] ?_
  rw [tab_nil, nrm_zero rfl]
  exact e_sh0
/-- rows with equal tables lead to alike surfaces -/
theorem rows_alike {w w' : Row} (h : tab w = tab w') : Eqv w w' := (nrm_tab w).symm.trans (h ▸ nrm_tab w')
end
end SG


set_option Elab.async false
set_option linter.all false
set_option maxRecDepth 100000
set_option maxHeartbeats 4000000
namespace SG
open PySem PySem.Spec L2
open PyProof.Rows hiding St
/-! ### rows of tables, as program and law reckon them -/
/-- all four numbers at most B -/
def Bd (B : Nat) (x : Tb) : Prop := x.a.natAbs ≤ B ∧ x.b.natAbs ≤ B ∧ x.c.natAbs ≤ B ∧ x.d.natAbs ≤ B
def mB (x : Tb) : Int := (2 * x.a + x.c).fdiv (2 * x.c)
def stepB (x : Tb) : Tb := (x.sh (-(mB x))).ut
def rowF : Nat → Tb → Row
  | 0, _ => []
  | k + 1, x => if x.c = 0 then (if x.a < 0 then [SG.sh (-x.b), SG.tu 2] else [SG.sh x.b]) else rowF k (stepB x) ++ [SG.tu 1, SG.sh (mB x)]
section
variable {x y : Tb} {B k : Nat}
theorem mB_rest (hc : x.c ≠ 0) : 2 * (x.a + -(mB x) * x.c).natAbs ≤ x.c.natAbs := by
  have h := Int.mul_fdiv_add_fmod (2 * x.a + x.c) (2 * x.c)
  have h1 : 2 * x.c * (2 * x.a + x.c).fdiv (2 * x.c) = 2 * (x.c * mB x) := by unfold mB; rw [Int.mul_assoc]
  have h2 : -(mB x) * x.c = -(x.c * mB x) := by rw [Int.neg_mul, Int.mul_comm]
  rw [h1] at h
  rw [h2]
  rcases Int.lt_trichotomy x.c 0 with h3 | h3 | h3
  · have e : (-(2 * x.a + x.c)).fmod (-(2 * x.c)) = -((2 * x.a + x.c).fmod (2 * x.c)) := Int.neg_fmod_neg _ _
    have := Int.fmod_nonneg_of_pos (-(2 * x.a + x.c)) (show 0 < -(2 * x.c) by omega)
    have := Int.fmod_lt_of_pos (-(2 * x.a + x.c)) (show 0 < -(2 * x.c) by omega)
    omega
  · exact absurd h3 hc
  · have := Int.fmod_nonneg_of_pos (2 * x.a + x.c) (show 0 < 2 * x.c by omega)
    have := Int.fmod_lt_of_pos (2 * x.a + x.c) (show 0 < 2 * x.c by omega)
    omega
theorem step_d (hx : x.Ok) (hc : x.c ≠ 0) : (x.b + -(mB x) * x.d).natAbs ≤ x.d.natAbs / 2 + 1 := by
  have h := mB_rest hc
  have hd := hx.sh (-(mB x))
  unfold Tb.Ok Tb.sh at hd
  simp only at hd
  have e : ((x.b + -(mB x) * x.d) * x.c).natAbs ≤ ((x.a + -(mB x) * x.c) * x.d).natAbs + 1 := by omega
  rw [Int.natAbs_mul, Int.natAbs_mul] at e
  apply Classical.byContradiction
  intro hn
  have h3 : (x.d.natAbs / 2 + 2) * x.c.natAbs ≤ (x.b + -(mB x) * x.d).natAbs * x.c.natAbs := Nat.mul_le_mul_right _ (by omega)
  have h4 : 2 * ((x.a + -(mB x) * x.c).natAbs * x.d.natAbs) ≤ x.c.natAbs * x.d.natAbs := by rw [← Nat.mul_assoc]; exact Nat.mul_le_mul_right _ h
  have h5 : 2 * ((x.d.natAbs / 2 + 2) * x.c.natAbs) ≤ 2 * ((x.a + -(mB x) * x.c).natAbs * x.d.natAbs) + 2 := by omega
  have h6 : x.c.natAbs * x.d.natAbs ≤ x.c.natAbs * (2 * (x.d.natAbs / 2) + 1) := Nat.mul_le_mul_left _ (by omega)
  have h7 : 2 * ((x.d.natAbs / 2 + 2) * x.c.natAbs) = x.c.natAbs * (2 * (x.d.natAbs / 2) + 1) + 3 * x.c.natAbs := by
    rw [← Nat.mul_assoc, Nat.mul_comm (2 * (x.d.natAbs / 2 + 2)) x.c.natAbs, Nat.mul_comm 3 x.c.natAbs, ← Nat.mul_add]
    congr 1
  omega
theorem stepB_ok (hx : x.Ok) : (stepB x).Ok := (hx.sh _).ut
theorem Bd.step (h2 : 2 ≤ B) (hx : x.Ok) (hc : x.c ≠ 0) (h : Bd B x) : Bd B (stepB x) ∧ Bd B (x.sh (-(mB x))) ∧ 2 * (stepB x).c.natAbs ≤ x.c.natAbs := by
  obtain ⟨ha, hb, hcc, hd⟩ := h
  have k1 := mB_rest hc
  have k2 := step_d hx hc
  have k3 : (x.b + -(mB x) * x.d).natAbs ≤ B := by omega
  have k4 : (x.a + -(mB x) * x.c).natAbs ≤ B := by omega
  refine ⟨⟨hcc, hd, ?_, ?_⟩, ⟨k4, k3, hcc, hd⟩, ?_⟩
  · show (-(x.a + -(mB x) * x.c)).natAbs ≤ B
    rw [Int.natAbs_neg]; exact k4
  · show (-(x.b + -(mB x) * x.d)).natAbs ≤ B
    rw [Int.natAbs_neg]; exact k3
  · show 2 * (-(x.a + -(mB x) * x.c)).natAbs ≤ x.c.natAbs
    rw [Int.natAbs_neg]; exact k1
theorem step_back (x : Tb) : (stepB x).tu.sh (mB x) = x := by
  unfold stepB
  rw [Tb.ut_tu, Tb.sh_sh, show -(mB x) + mB x = 0 by omega, Tb.sh_zero]
theorem rowF_tab : ∀ (k : Nat) (x : Tb), x.Ok → x.c.natAbs < 2 ^ k → tab (rowF (k + 1) x) = x
  | 0, x, hx, h => by
    have hc : x.c = 0 := by omega
    unfold rowF
    rw [if_pos hc]
    rcases one_or hx hc with ⟨ha, hd⟩ | ⟨ha, hd⟩
    · rw [if_neg (by omega)]
      show Tb.one.then (SG.gen (SG.sh x.b)) = x
      rw [Tb.one_then]
      exact Tb.ext' ha.symm rfl hc.symm hd.symm
    · rw [if_pos (by omega)]
      show (Tb.one.then (SG.gen (SG.sh (-x.b)))).then (SG.gen (SG.tu 2)) = x
      rw [Tb.one_then]
      apply Tb.ext' <;> simp [Tb.then, gen, qtr] <;> omega
  | k + 1, x, hx, h => by
    by_cases hc : x.c = 0
    · have := rowF_tab k x hx (by rw [hc]; exact Nat.pow_pos (by decide))
      unfold rowF at this ⊢
      rw [if_pos hc] at this ⊢
      exact this
    · have h1 := mB_rest hc
      have h2 : (stepB x).c.natAbs < 2 ^ k := by
        show (-(x.a + -(mB x) * x.c)).natAbs < _
        rw [Int.natAbs_neg]
        rw [Nat.pow_succ] at h
        omega
      have := rowF_tab k (stepB x) (stepB_ok hx) h2
      rw [rowF, if_neg hc]
      show tab (rowF (k + 1) (stepB x) ++ [SG.tu 1, SG.sh (mB x)]) = x
      rw [show rowF (k + 1) (stepB x) ++ [SG.tu 1, SG.sh (mB x)] = rowF (k + 1) (stepB x) ++ [SG.tu 1] ++ [SG.sh (mB x)] by rw [List.append_assoc]; rfl, tab_snoc, tab_snoc, this, then_tu, then_sh, step_back]
end
/-- the row that is told of a table -/
def rowT (x : Tb) : Row := rowF 202 x
/-- the size of what is reckoned with here -/
def BIG : Nat := 2 ^ 200
section
variable {δ δ1 δ2 : Dr} {C : Ctx} {ρ : Sls} {t : DE} {r : DA} {d : D} {xs ys : List D}
end
section
variable {δ : Dr} {k n m q B : Nat} {s t : Nm × Nm} {C : Ctx} {x y : Tb}
theorem rowT_tab (hx : x.Ok) (h : Bd BIG x) : tab (rowT x) = x := rowF_tab 201 x hx (Nat.lt_of_le_of_lt h.2.2.1 (by decide +kernel))
/-! numbers small enough -/
theorem small_of {i : Int} (h : i.natAbs < 2 ^ 4000) : small i = true := decide_eq_true h
theorem big_small : BIG < 2 ^ 4000 := by decide +kernel
theorem small_big {i : Int} (h : i.natAbs ≤ BIG) : small i = true := small_of (Nat.lt_of_le_of_lt h big_small)
def Sm (x : Tb) : Prop := small x.a = true ∧ small x.b = true ∧ small x.c = true ∧ small x.d = true
theorem Bd.sm (h : Bd BIG x) : Sm x := ⟨small_big h.1, small_big h.2.1, small_big h.2.2.1, small_big h.2.2.2⟩
theorem neg_is (x : Tb) : x.then ⟨-1, 0, 0, -1⟩ = x.neg := by apply Tb.ext' <;> simp [Tb.then, Tb.neg]
end
end SG


set_option Elab.async false
set_option linter.all false
set_option maxRecDepth 100000
set_option maxHeartbeats 4000000
namespace SG
open PySem PySem.Spec L2
open PyProof.Rows hiding St
/-! ### led surfaces -/
section
variable {δ : Dr} {k n m q B : Nat} {s t : Nm × Nm} {C : Ctx} {x y : Tb} {p : Nm} {w : Row}
theorem add_tup {a b : List D} (h : a.length + b.length ≤ 1000) : binSem .Add (.tup a) (.tup b) = some (.tup (a ++ b)) := by
  show (if a.length + b.length ≤ LINE then some (D.tup (a ++ b)) else none) = _
  rw [if_pos (small_line h)]
theorem sp_law_moved (hs : Surf n s) (row : Row) : callN (k + 4) i__law_moved [eS s, eR row] δ = .ok (eS (mvS s row)) δ := by
  rw [cn__law_moved]
  have key : ∀ (row : Row) (s : Nm × Nm) (r0 r : D) (t u : Sl), Surf n s → ∃ t' u', forM' (.t [.n 3, .n 4]) (dSet 2 (zV (dIf (dCmp .Eq (dPeek 3) (dC (.str "shear"))) (dCall i__law_sheared (dCons (dVar 2) (dCons (dVar 4) (dNil)))) (dCall i__law_turned (dCons (dVar 2) (dCons (dVar 4) (dNil))))))) ⟨callN (k + 3)⟩ (row.map eP) [.val r0, .val r, .val (eS s), t, u] δ = .ok (.nx [.val r0, .val r, .val (eS (mvS s row)), t', u']) δ := by
    intro row
    induction row with
    | nil => exact fun s r0 r t u _ => ⟨t, u, rfl⟩
    | cons p row ih =>
      intro s r0 r t u hs
      obtain ⟨b, m⟩ := p
      obtain ⟨t', u', e⟩ := ih (mv1 s (b, m)) r0 r (.val (.str (if b then "shear" else "turn"))) (.val (.int m)) (hs.mv1 _)
      refine ⟨t', u', ?_⟩
      rw [List.map_cons, for_cons (ρ1 := [.val r0, .val r, .val (eS s), .val (.str (if b then "shear" else "turn")), .val (.int m)]) (fl := .nx [.val r0, .val r, .val (eS (mv1 s (b, m))), .val (.str (if b then "shear" else "turn")), .val (.int m)]) rfl (δ1 := δ)]
      · exact e
      · refine set_to (zv_to ?_)
        cases b with
        | true => exact if_t (cmp_to (peek_val rfl) c_to (cmp_shear true)) (callK (cons_to (var_val rfl) (cons_to (var_val rfl) nil_to)) (sp_law_sheared (k := k) hs m))
        | false => exact if_f (cmp_to (peek_val rfl) c_to (cmp_shear false)) (callK (cons_to (var_val rfl) (cons_to (var_val rfl) nil_to)) (sp_law_turned (k := k + 1) hs m))
  obtain ⟨t', u', e⟩ := key row s (eS s) (eR row) .no .no hs
  exact run_rt rfl (by decide) (seq_to (set_to (zv_to (var_val rfl))) (seq_to ((dFor_to (it_to (var_val rfl) rfl)).trans e) (ret_to (var_val rfl))))
/-- the surface led by a table, its least drawing -/
def ledS (n : Nat) (s : Nm × Nm) (x : Tb) : Nm × Nm := leaS n (mvS s (rowT x))
theorem Surf.led (hs : Surf n s) (x : Tb) : Surf n (ledS n s x) := leaS_ok (hs.mv _)
theorem lea_eqv {w w' : Row} (hs : Surf n s) (h : Eqv w w') : leaS n (mvS s w) = leaS n (mvS s w') := by
  obtain ⟨p, hp, e⟩ := h.run n s hs
  rw [← e, leaS_ren (hs.mv w) hp]
theorem led_tab (hs : Surf n s) (hx : x.Ok) (h : Bd BIG x) (hw : tab w = x) : leaS n (mvS s w) = ledS n s x := lea_eqv hs (rows_alike (hw.trans (rowT_tab hx h).symm))
theorem lea_is_ren (hs : Surf n s) : ∃ p, IsN n p ∧ leaS n s = renS s p := by
  obtain ⟨q, hq, e⟩ := leaS_is hs
  exact ⟨_, (walk_isN hs hq).back, e⟩
/-- the table back -/
def Tb.inv (x : Tb) : Tb := ⟨x.d, -x.b, -x.c, x.a⟩
theorem Tb.Ok.inv (hx : x.Ok) : x.inv.Ok := by
  unfold Tb.Ok Tb.inv at *
  simp only [Int.neg_mul_neg]
  rw [Int.mul_comm x.d x.a]
  exact hx
theorem Bd.inv (h : Bd B x) : Bd B x.inv := ⟨h.2.2.2, by show (-x.b).natAbs ≤ B; rw [Int.natAbs_neg]; exact h.2.1, by show (-x.c).natAbs ≤ B; rw [Int.natAbs_neg]; exact h.2.2.1, h.1⟩
theorem Tb.Ok.then (hx : x.Ok) (hy : y.Ok) (h : Bd BIG y) : (x.then y).Ok := by
  have : x.then y = (rowT y).foldl (fun x g => x.then (SG.gen g)) x := by rw [fold_then, rowT_tab hy h]
  rw [this]
  have key : ∀ (v : Row) (x : Tb), x.Ok → (v.foldl (fun x g => x.then (SG.gen g)) x).Ok := fun v => by
    induction v with
    | nil => exact fun x h => h
    | cons g v ih => exact fun x h => ih _ (h.gen g)
  exact key _ _ hx
/-! tables judged -/
def many4 (x : Tb) : Prop := Many x.a ∧ Many x.b ∧ Many x.c ∧ Many x.d
theorem many_big {i : Int} (h : Many i) : i.natAbs ≤ BIG := Nat.le_of_lt (Nat.lt_trans h (by decide +kernel))
theorem many4_bd (h : many4 x) : Bd BIG x := ⟨many_big h.1, many_big h.2.1, many_big h.2.2.1, many_big h.2.2.2⟩
end
end SG


set_option Elab.async false
set_option linter.all false
set_option maxRecDepth 100000
set_option maxHeartbeats 4000000
namespace SG
open PySem PySem.Spec L2
open PyProof.Rows hiding St
/-! ### tables drawn, tables of rows -/
section
variable {δ : Dr} {k n m q B : Nat} {s t : Nm × Nm} {C : Ctx} {x y z : Tb} {p : Nm} {w : Row}
theorem Bd.sh {B j : Nat} (h : Bd B x) {i : Int} (hi : i.natAbs + 1 ≤ j) : Bd (j * B) (x.sh i) := by
  have e1 : ∀ u v : Int, u.natAbs ≤ B → v.natAbs ≤ B → (u + i * v).natAbs ≤ j * B := fun u v hu hv => by
    have h1 : (u + i * v).natAbs ≤ u.natAbs + (i * v).natAbs := Int.natAbs_add_le _ _
    rw [Int.natAbs_mul] at h1
    have h2 : i.natAbs * v.natAbs ≤ i.natAbs * B := Nat.mul_le_mul_left _ hv
    have h3 : (i.natAbs + 1) * B ≤ j * B := Nat.mul_le_mul_right _ hi
    rw [Nat.add_mul, Nat.one_mul] at h3
    omega
  have e2 : B ≤ j * B := Nat.le_mul_of_pos_left _ (by omega)
  exact ⟨e1 _ _ h.1 h.2.2.1, e1 _ _ h.2.1 h.2.2.2, Nat.le_trans h.2.2.1 e2, Nat.le_trans h.2.2.2 e2⟩
theorem Bd.tu (h : Bd B x) : Bd B x.tu := ⟨by show (-x.c).natAbs ≤ B; rw [Int.natAbs_neg]; exact h.2.2.1, by show (-x.d).natAbs ≤ B; rw [Int.natAbs_neg]; exact h.2.2.2, h.1, h.2.1⟩
theorem Bd.le {B' : Nat} (h : Bd B x) (hb : B ≤ B') : Bd B' x := ⟨Nat.le_trans h.1 hb, Nat.le_trans h.2.1 hb, Nat.le_trans h.2.2.1 hb, Nat.le_trans h.2.2.2 hb⟩
/-- the tables of all beginnings of a row are small -/
def RowSm (w : Row) : Prop := ∀ u v, w = u ++ v → Bd BIG (tab u) ∧ ∀ p ∈ w, p.2.natAbs ≤ BIG
/-- rows of small numbers -/
theorem tab_bd {j : Nat} (hj : 1 ≤ j) : ∀ (v u : Row) (i : Nat), (∀ p ∈ v, p.1 = true → p.2.natAbs + 1 ≤ j) → Bd (j ^ i) (tab u) → Bd (j ^ (i + v.length)) (tab (u ++ v))
  | [], u, i, _, h => by rw [List.append_nil]; exact h
  | (b, m) :: v, u, i, hv, h => by
    have step : Bd (j ^ (i + 1)) (tab (u ++ [(b, m)])) := by
      rw [tab_snoc]
      have up : j ^ i ≤ j ^ (i + 1) := Nat.pow_le_pow_right (by omega) (by omega)
      cases b with
      | true =>
        have := h.sh (i := m) (j := j) (hv (true, m) List.mem_cons_self rfl)
        rw [Nat.mul_comm, ← Nat.pow_succ] at this
        rw [show ((true, m) : Bool × Int) = SG.sh m from rfl, then_sh]
        exact this
      | false =>
        show Bd _ ((tab u).then (SG.gen (SG.tu m)))
        rcases then_tuk (tab u) m with ⟨_, e⟩ | ⟨_, e⟩ | ⟨_, e⟩ | ⟨_, e⟩
        · rw [e]; exact h.le up
        · rw [e]; exact h.tu.le up
        · rw [e]; exact h.tu.tu.le up
        · rw [e]; exact h.tu.tu.tu.le up
    have := tab_bd hj v (u ++ [(b, m)]) (i + 1) (fun p hp => hv p (List.mem_cons_of_mem _ hp)) step
    rw [List.append_assoc, show i + 1 + v.length = i + ((b, m) :: v).length by rw [List.length_cons]; omega] at this
    exact this
theorem rowSm_of {j : Nat} (hj : 1 ≤ j) (hw : ∀ p ∈ w, p.2.natAbs + 1 ≤ j) (hb : j ^ (w.length + 1) ≤ BIG) : RowSm w := fun u v e => by
  refine ⟨?_, fun p hp => ?_⟩
  · have := tab_bd hj u [] 0 (fun p hp _ => hw p (by rw [e]; exact List.mem_append_left _ hp)) (by rw [tab_nil]; exact ⟨by rw [Nat.pow_zero]; exact Nat.le_refl 1, by rw [Nat.pow_zero]; exact Nat.zero_le 1, by rw [Nat.pow_zero]; exact Nat.zero_le 1, by rw [Nat.pow_zero]; exact Nat.le_refl 1⟩)
    refine this.le (Nat.le_trans (Nat.pow_le_pow_right (by omega) ?_) hb)
    have := congrArg List.length e
    rw [List.length_append] at this
    omega
  · have h1 := hw p hp
    have h2 : j ^ 1 ≤ j ^ (w.length + 1) := Nat.pow_le_pow_right (by omega) (by omega)
    rw [Nat.pow_one] at h2
    omega
end
end SG


set_option Elab.async false
set_option linter.all false
set_option maxRecDepth 100000
set_option maxHeartbeats 4000000
namespace SG
open PySem PySem.Spec L2
open PyProof.Rows hiding St
/-! ### half turns -/
section
variable {n m q : Nat} {s t s' t' : Nm × Nm} {p r f : Nm}
theorem cov_len (hs : Surf n s) (ht : Surf n t) (hs' : Surf n s') (ht' : Surf n t') (c : Cov n n s s' p) (d : Cov n n t t' r) : (covL n n s' t').length = (covL n n s t).length := by
  have hp := c.naming hs hs'
  have hr := d.naming ht ht'
  have ci := c.inv hs hs'
  have di := d.inv ht ht'
  have key : srt ((covL n n s t).map fun g => thenN (thenN (backN p) g) r) = srt (covL n n s' t') := by
    refine srt_of ?_ (covL_nodup hs') fun f => ?_
    · rw [List.nodup_iff_pairwise_ne, List.pairwise_map]
      have nd := covL_nodup (m := n) (t := t) hs
      rw [List.nodup_iff_pairwise_ne] at nd
      refine (List.Pairwise.and_mem.mp nd).imp fun ⟨hf, hg, hne⟩ e => hne ?_
      have h1 := covL_mem hf
      have h2 := covL_mem hg
      refine Cov.one_at hs h1 h2 hs.pos ?_
      have k := congrArg (fun x => ap x (ap p 0)) e
      change ap (thenN (thenN (backN p) _) r) (ap p 0) = ap (thenN (thenN (backN p) _) r) (ap p 0) at k
      have hp0 := hp.lt 0 hs.pos
      have hb := hp.back
      rw [ap_then (by rw [then_len, hb.len]; exact hp0), ap_then (by rw [hb.len]; exact hp0), ap_then (by rw [then_len, hb.len]; exact hp0), ap_then (by rw [hb.len]; exact hp0), hp.back_ap hs.pos] at k
      exact hr.inj _ _ (h1.lt 0 hs.pos) (h2.lt 0 hs.pos) k
    · rw [covL_iff hs', List.mem_map]
      constructor
      · rintro ⟨g, hg, rfl⟩
        exact (ci.comp hs' (covL_mem hg)).comp hs' d
      · intro hf
        refine ⟨thenN (thenN p f) (backN r), (covL_iff hs).mpr ((c.comp hs hf).comp hs di), ?_⟩
        have hfn := hf.naming hs' ht'
        rw [← then_assoc hp.back (hp.then hfn) hr.back, ← then_assoc hp.back hp hfn, back_then hp, id_then hfn, then_assoc hfn hr.back hr, back_then hr, then_id hfn]
  have := congrArg List.length key
  rw [srt_len, srt_len, List.length_map] at this
  exact this.symm
/-- the half turns -/
noncomputable def halfL (n : Nat) (s : Nm × Nm) : List Nm := srt (covL n n s (tuZ s 2))
theorem Surf.half (hs : Surf n s) : Surf n (SG.tuZ s 2) := hs.mv [SG.tu 2]
def negT : Tb := ⟨-1, 0, 0, -1⟩
theorem neg_then (x : Tb) : negT.then x = x.neg := by apply Tb.ext' <;> simp [Tb.then, negT, Tb.neg]
theorem Bd.neg {B : Nat} {x : Tb} (h : Bd B x) : Bd B x.neg := ⟨by show (-x.a).natAbs ≤ B; rw [Int.natAbs_neg]; exact h.1, by show (-x.b).natAbs ≤ B; rw [Int.natAbs_neg]; exact h.2.1, by show (-x.c).natAbs ≤ B; rw [Int.natAbs_neg]; exact h.2.2.1, by show (-x.d).natAbs ≤ B; rw [Int.natAbs_neg]; exact h.2.2.2⟩
theorem half_led (hs : Surf n s) (x : Tb) : (halfL n (ledS n s x)).length = (halfL n s).length := by
  unfold halfL
  rw [srt_len, srt_len]
  have hu := hs.mv (rowT x)
  obtain ⟨q, hq, e⟩ := lea_is_ren hu
  have e2 : ledS n s x = renS (mvS s (rowT x)) q := e
  have e3 : tuZ (renS (mvS s (rowT x)) q) 2 = renS (tuZ (mvS s (rowT x)) 2) q := mv_ren hu hq [SG.tu 2]
  rw [e2, e3, cov_len hu hu.half (hu.ren hq) (hu.half.ren hq) (Cov.ren hu hq) (Cov.ren hu.half hq)]
  have ev : Eqv ([SG.tu 2] ++ rowT x) (rowT x ++ [SG.tu 2]) := rows_alike (by
    rw [tab_app, tab_app]
    show (Tb.one.then (SG.gen (SG.tu 2))).then _ = _
    rw [Tb.one_then]
    show negT.then _ = (tab (rowT x)).then (Tb.one.then (SG.gen (SG.tu 2)))
    rw [Tb.one_then]
    show _ = (tab (rowT x)).then ⟨-1, 0, 0, -1⟩
    rw [neg_then, neg_is])
  obtain ⟨p, hp, e5⟩ := ev.run n s hs
  rw [mvS_app, mvS_app] at e5
  have e6 : mvS (mvS s (rowT x)) [SG.tu 2] = tuZ (mvS s (rowT x)) 2 := rfl
  have e7 : mvS s [SG.tu 2] = tuZ s 2 := rfl
  rw [e6, e7] at e5
  have hv := hs.half.mv (rowT x)
  rw [← e5, cov_len hu hv hu (hv.ren hp) (Cov.idC hu) (Cov.ren hv hp)]
  exact congrArg List.length (covL_mv hs hs.half (rowT x))
end
section
variable {δ : Dr} {k n m q B : Nat} {s t : Nm × Nm} {C : Ctx} {x y z : Tb} {p : Nm} {w : Row}
theorem sp_half_by (hs : Surf n s) : callN (k + 4) i_half_by [eS s] δ = .ok (eT (halfL n s)) δ := by
  rw [cn_half_by]
  exact run_rt rfl (by decide) (ret_to (fun1_to (callK (cons_to (var_val rfl) (cons_to (callK (cons_to (var_val rfl) (cons_to c_to nil_to)) (sp_turned_by (k := k + 1) hs 2)) nil_to)) (sp_renamings_by (k := k) hs hs.half)) (tuple_eL _)))
theorem sp_half_turns (hs : Surf n s) : callN (k + 5) i_half_turns [eS s] δ = .ok (eT (halfL n s)) δ := by
  rw [cn_half_turns]
  exact run_rt rfl (by decide) (seq_to (drop_to (callK (cons_to (var_val rfl) nil_to) (sp_need_surface (k := k) hs))) (ret_to (callK (cons_to (var_val rfl) nil_to) (sp_half_by (k := k) hs))))
theorem sp_law_halves (hs : Surf n s) : callN (k + 4) i__law_halves [eS s] δ = .ok (eL (halfL n s)) δ := by
  rw [cn__law_halves]
  have hn := hs.most
  refine run_rt rfl (by decide) (ret_to (callK (cons_to (var_val rfl) (cons_to (fun1_to (lc_mp (xs := [s.1, s.2]) (f := eN) (y := fun a => eN (backN a)) (it_to (peek_val rfl) rfl) rfl (show 2 ≤ LINE by decide) fun a ha => ⟨_, rfl, fun δ => callK (cons_to (var_val rfl) nil_to) (sp_law_back (k := k + 2) (n := n) ?_ (by omega))⟩) (show sTuple (.lst [eN (backN s.1), eN (backN s.2)]) = some (eS (tuZ s 2)) from rfl)) nil_to)) (sp_law_renamings (k := k) hs hs.half)))
  simp only [List.mem_cons, List.not_mem_nil, or_false] at ha
  rcases ha with rfl | rfl
  · exact hs.r
  · exact hs.u
end
end SG


set_option Elab.async false
set_option linter.all false
set_option maxRecDepth 100000
set_option maxHeartbeats 4000000
namespace SG
open PySem PySem.Spec L2
open PyProof.Rows hiding St
/-! ### tables that keep a surface -/
section
variable {n m q : Nat} {s t : Nm × Nm} {p : Nm} {x y : Tb}
theorem Surf.quarter (hs : Surf n s) : Surf n (SG.tuZ s 1) := hs.mv [SG.tu 1]
end
section
variable {δ : Dr} {k n m q B : Nat} {s t : Nm × Nm} {C : Ctx} {x y z : Tb} {p : Nm} {w : Row}
theorem rows_one {ys : List D} (h : ∀ i (hi : i < ys.length), ∃ p : Bool × Int, ys[i] = eP p ∧ p.2.natAbs ≤ 1) : ∃ row : Row, ys = row.map eP ∧ ∀ p ∈ row, p.2.natAbs ≤ 1 := by
  induction ys with
  | nil => exact ⟨[], rfl, fun p hp => nomatch hp⟩
  | cons y ys ih =>
    obtain ⟨row, h1, h2⟩ := ih fun i hi => h (i + 1) (Nat.succ_lt_succ hi)
    obtain ⟨p, h3, h4⟩ := h 0 (Nat.zero_lt_succ _)
    refine ⟨p :: row, ?_, fun r hr => ?_⟩
    · rw [List.map_cons, ← h1, ← h3]; rfl
    · rcases List.mem_cons.mp hr with rfl | hr
      · exact h4
      · exact h2 r hr
theorem sp_small_row1 {most : Nat} (hm : most ≤ 100) : ∃ row δ', row.length ≤ most ∧ (∀ p ∈ row, p.2.natAbs ≤ 1) ∧ callN (k + 4) i__law_small_row [.draw, eI most] δ = .ok (eR row) δ' := by
  rw [cn__law_small_row]
  obtain ⟨j, δ1, hj, e1⟩ := sp_take (k := k + 1) (δ := δ) (amount := most + 1) (by omega) (by omega)
  have it : dRng1 (dCall i__law_take (dCons (dVar 0) (dCons (dBin .Add (dPeek 1) (dC (.int 1))) (dNil)))) ⟨callN (k + 3)⟩ [.val .draw, .val (eI most), .no] δ = .ok (rngD 0 j) δ1 := rng1_to (call_to (cons_to (var_val rfl) (cons_to (bin_to (peek_val rfl) c_to (e := eI (most + 1)) (by rfl)) nil_to)) e1) (by omega)
  obtain ⟨ys, δ2, h1, h2, h3⟩ := lc_ex (C := ⟨callN (k + 3)⟩) (g := .n 2) (te := dCall i__law_pick (dCons (dVar 0) (dCons (dLst (dCons (dTup (dCons (dC (.str "shear")) (dCons (dC (.int 1)) (dNil)))) (dCons (dTup (dCons (dC (.str "shear")) (dCons (dNeg (dC (.int 1))) (dNil)))) (dCons (dTup (dCons (dC (.str "turn")) (dCons (dC (.int 1)) (dNil)))) (dNil))))) (dNil)))) (vs := [2]) (P := fun _ y => ∃ p : Bool × Int, y = eP p ∧ p.2.natAbs ≤ 1) it rfl (by rw [rng_len]; exact small_line (by omega)) (fun d _ => by
    refine ⟨_, rfl, fun δ => ?_⟩
    obtain ⟨y, δ', hy, e⟩ := sp_pick (k := k) (δ := δ) (ds := [eP (true, 1), eP (true, -1), eP (false, 1)]) (by decide) (by decide)
    refine ⟨y, δ', call_to (cons_to (var_val rfl) (cons_to (lst_to (cons_to (tup_to (cons_to c_to (cons_to c_to nil_to)) two_line) (cons_to (tup_to (cons_to c_to (cons_to (neg_to c_to) nil_to)) two_line) (cons_to (tup_to (cons_to c_to (cons_to c_to nil_to)) two_line) nil_to))) (show 3 ≤ LINE by decide)) nil_to)) e, ?_⟩
    simp only [List.mem_cons, List.not_mem_nil, or_false] at hy
    rcases hy with rfl | rfl | rfl
    · exact ⟨(true, 1), rfl, by decide⟩
    · exact ⟨(true, -1), rfl, by decide⟩
    · exact ⟨(false, 1), rfl, by decide⟩)
  rw [rng_len] at h2
  obtain ⟨row, h4, h5⟩ := rows_one fun i hi => h3 i (by rw [rng_len]; omega) hi
  subst h4
  rw [List.length_map] at h2
  exact ⟨row, δ2, by omega, h5, run_rt rfl (by decide) (ret_to (fun1_to h1 rfl))⟩
end
end SG


set_option Elab.async false
set_option linter.all false
set_option maxRecDepth 100000
set_option maxHeartbeats 4000000
namespace SG
open PySem PySem.Spec L2
open PyProof.Rows hiding St
/-! ### any value judged: a naming, a surface -/
/-- what may be asked about -/
def nice : Nat → D → Prop
  | 0, d => tyOf d ≠ none
  | k + 1, d => tyOf d ≠ none ∧ ∀ xs, d = .tup xs → xs.length ≤ 1000 ∧ (∀ x ∈ xs, nice k x) ∧ ∀ x ∈ xs, ∀ m, 50 ≤ m → pl m x = true
theorem nice.ty {k : Nat} {d : D} (h : nice k d) : tyOf d ≠ none := by
  cases k with
  | zero => exact h
  | succ k => exact h.1
section
variable {δ : Dr} {k n : Nat} {C : Ctx}
theorem pls_every {ys : List D} {m : Nat} (h : ∀ y ∈ ys, pl m y = true) : pls m ys = true := by
  induction ys with
  | nil => simp [pls]
  | cons y ys ih =>
    simp only [pls, Bool.and_eq_true]
    exact ⟨h _ List.mem_cons_self, ih fun z hz => h z (List.mem_cons_of_mem _ hz)⟩
end
end SG


set_option Elab.async false
set_option linter.all false
set_option maxRecDepth 100000
set_option maxHeartbeats 4000000
namespace SG
open PySem PySem.Spec L2
open PyProof.Rows hiding St
/-! ### values drawn near to surfaces -/
/-- nice, and plain to a depth -/
structure okD (k : Nat) (d : D) : Prop where
  nice : nice k d
  plain : ∀ m, 10 * (k + 1) ≤ m → pl m d = true
theorem ok_tup {k : Nat} {xs : List D} (hk : k ≤ 3) (hl : xs.length ≤ 1000) (h : ∀ x ∈ xs, okD k x) : okD (k + 1) (.tup xs) := by
  refine ⟨⟨by simp [tyOf], fun ys e => ?_⟩, fun m hm => ?_⟩
  · injection e with e
    subst e
    exact ⟨hl, fun x hx => (h x hx).nice, fun x hx m hm => (h x hx).plain m (by omega)⟩
  · obtain ⟨j, rfl⟩ : ∃ j, m = j + 1 := ⟨m - 1, by omega⟩
    unfold pl
    exact pls_every fun x hx => (h x hx).plain j (by omega)
/-- told by a test -/
def niceB : Nat → D → Bool
  | 0, d => (tyOf d).isSome && pl 10 d
  | k + 1, .tup xs => decide (xs.length ≤ 1000) && xs.all (niceB k)
  | _ + 1, d => (tyOf d).isSome && pl 10 d
theorem okD.of : ∀ {k : Nat} {d : D}, k ≤ 3 → niceB k d = true → okD k d
  | 0, d, _, h => by
    unfold niceB at h
    rw [Bool.and_eq_true] at h
    exact ⟨(fun e => by rw [e] at h; exact absurd h.1 (by simp)), fun m hm => pl_le (by omega) h.2⟩
  | k + 1, .tup xs, hk, h => by
    unfold niceB at h
    rw [Bool.and_eq_true, List.all_eq_true] at h
    exact ok_tup (by omega) (of_decide_eq_true h.1) fun x hx => okD.of (by omega) (h.2 x hx)
  | k + 1, .non, _, h => ⟨⟨by simp [tyOf], fun _ e => nomatch e⟩, fun m hm => pl_le (n := 10) (by omega) (by unfold niceB at h; rw [Bool.and_eq_true] at h; exact h.2)⟩
  | k + 1, .bl _, _, h => ⟨⟨by simp [tyOf], fun _ e => nomatch e⟩, fun m hm => pl_le (n := 10) (by omega) (by unfold niceB at h; rw [Bool.and_eq_true] at h; exact h.2)⟩
  | k + 1, .int _, _, h => ⟨⟨by simp [tyOf], fun _ e => nomatch e⟩, fun m hm => pl_le (n := 10) (by omega) (by unfold niceB at h; rw [Bool.and_eq_true] at h; exact h.2)⟩
  | k + 1, .str _, _, h => ⟨⟨by simp [tyOf], fun _ e => nomatch e⟩, fun m hm => pl_le (n := 10) (by omega) (by unfold niceB at h; rw [Bool.and_eq_true] at h; exact h.2)⟩
  | k + 1, .lst _, _, h => ⟨⟨by simp [tyOf], fun _ e => nomatch e⟩, fun m hm => pl_le (n := 10) (by omega) (by unfold niceB at h; rw [Bool.and_eq_true] at h; exact h.2)⟩
section
variable {δ : Dr} {k n : Nat} {C : Ctx}
end
end SG


set_option Elab.async false
set_option linter.all false
set_option maxRecDepth 100000
set_option maxHeartbeats 4000000
namespace SG
open PySem PySem.Spec L2
open PyProof.Rows hiding St
/-! ### the law's own covers -/
def setF (F : Nat → Nat) (x v : Nat) : Nat → Nat := fun i => if i = x then v else F i
section
variable {δ : Dr} {k n m : Nat} {s t : Nm × Nm} {C : Ctx}
/-- what the law's table holds -/
structure TabL (n m : Nat) (s t : Nm × Nm) (b : Nat) (L : List Nat) (F : Nat → Nat) : Prop where
  nd : L.Nodup
  lt : ∀ i ∈ L, i < n
  zero : 0 ∈ L
  im : ∀ i ∈ L, F i < m
  cov : ∀ f, Cov n m s t f → ap f 0 = b → ∀ i ∈ L, F i = ap f i
  off : ∀ f, Cov n m s t f → ap f 0 ≠ b → ∀ i ∈ L, F i ≠ ap f i
theorem TabL.put {b x v : Nat} {L : List Nat} {F : Nat → Nat} (w : TabL n m s t b L F) (hx : x < n) (hv : v < m) (hc : ∀ f, Cov n m s t f → ap f 0 = b → v = ap f x) (ho : ∀ f, Cov n m s t f → ap f 0 ≠ b → v ≠ ap f x) : TabL n m s t b (addL L x) (setF F x v) := by
  refine ⟨?_, fun i hi => ?_, mem_addL.mpr (.inl w.zero), fun i hi => ?_, fun f hf h0 i hi => ?_, fun f hf h0 i hi => ?_⟩
  · unfold addL
    split
    · exact w.nd
    · rename_i h
      exact List.nodup_append.mpr ⟨w.nd, by simp, fun a ha c hc => by rw [List.mem_singleton.mp hc]; exact fun z => h (z ▸ ha)⟩
  · rcases mem_addL.mp hi with h | rfl
    · exact w.lt i h
    · exact hx
  · unfold setF
    split
    · exact hv
    · rename_i h
      rcases mem_addL.mp hi with hi | hi
      · exact w.im i hi
      · exact absurd hi h
  · unfold setF
    split
    · rename_i h
      rw [h]; exact hc f hf h0
    · rename_i h
      rcases mem_addL.mp hi with hi | hi
      · exact w.cov f hf h0 i hi
      · exact absurd hi h
  · unfold setF
    split
    · rename_i h
      rw [h]; exact ho f hf h0
    · rename_i h
      rcases mem_addL.mp hi with hi | hi
      · exact w.off f hf h0 i hi
      · exact absurd hi h
end
end SG


set_option Elab.async false
set_option linter.all false
set_option maxRecDepth 100000
set_option maxHeartbeats 4000000
namespace SG
open PySem PySem.Spec L2
open PyProof.Rows hiding St
/-! ### for the laws of covers -/
section
variable {δ : Dr} {k n m q : Nat} {s t : Nm × Nm} {C : Ctx}
theorem nice.down {k : Nat} {d : D} (h : nice (k + 1) d) : nice k d := by
  induction k generalizing d with
  | zero => exact h.ty
  | succ k ih => exact ⟨h.1, fun xs e => ⟨(h.2 xs e).1, fun x hx => ih ((h.2 xs e).2.1 x hx), (h.2 xs e).2.2⟩⟩
theorem Cov.mem {f : Nm} (h : Cov n m s t f) : ∀ i ∈ f, i < m := fun i hi => by
  obtain ⟨j, hj, rfl⟩ := List.mem_iff_getElem.mp hi
  rw [← ap_lt hj]
  exact h.lt j (by rw [← h.len]; exact hj)
end
end SG


set_option Elab.async false
set_option linter.all false
set_option maxRecDepth 100000
set_option maxHeartbeats 4000000
namespace SG
open PySem PySem.Spec L2
open PyProof.Rows hiding St
/-! ### dicts keyed by surfaces; the ring -/
abbrev Su := Nm × Nm
/-! ### sorted surfaces -/
/-! ### how many surfaces there are -/
end SG


set_option Elab.async false
set_option linter.all false
set_option maxRecDepth 100000
set_option maxHeartbeats 4000000
namespace SG
open PySem PySem.Spec L2
open PyProof.Rows hiding St
/-! ### rows_from -/
def g3 : List (Bool × Int) := [(true, 1), (true, -1), (false, 1)]
def SmR (w : Row) : Prop := ∀ p ∈ w, p ∈ g3
section
variable {δ : Dr} {k n m : Nat} {s t x : Su} {C : Ctx} {w : Row} {M : List (Su × Row)}
/-- what the dict of the rows holds -/
structure RI (n : Nat) (s : Su) (M : List (Su × Row)) : Prop where
  nd : (M.map (·.1)).Nodup
  is : ∀ p ∈ M, p.1 = leaS n (mvS s p.2)
  sm : ∀ p ∈ M, SmR p.2
  len : ∀ p ∈ M, p.2.length < M.length
  st : leaS n s ∈ M.map (·.1)
theorem RI.start : RI n s [(leaS n s, [])] where
  nd := List.nodup_cons.mpr ⟨(fun h => nomatch h), List.nodup_nil⟩
  is := fun p hp => by rw [List.mem_singleton.mp hp]; rfl
  sm := fun p hp => by
    rw [List.mem_singleton.mp hp]
    intro q hq
    exact nomatch hq
  len := fun p hp => by rw [List.mem_singleton.mp hp]; exact Nat.zero_lt_one
  st := List.mem_singleton.mpr rfl
def Clo3 (n : Nat) (M : List (Su × Row)) (x : Su) : Prop := ∀ g ∈ g3, leaS n (mvS x [g]) ∈ M.map (·.1)
theorem Clo3.more {K : List (Su × Row)} (h : Clo3 n M x) : Clo3 n (M ++ K) x := fun g hg => by rw [List.map_append]; exact List.mem_append_left _ (h g hg)
end
end SG


set_option Elab.async false
set_option linter.all false
set_option maxRecDepth 100000
set_option maxHeartbeats 4000000
namespace SG
open PySem PySem.Spec L2
open PyProof.Rows hiding St
/-! ### the ring -/
section
variable {δ : Dr} {k n m : Nat} {s t x : Su} {C : Ctx} {w : Row} {M : List (Su × Row)} {p : Nm}
theorem RI.least (hs : Surf n s) (R : RI n s M) : ∀ x ∈ M.map (·.1), leaS n x = x := fun x hx => by
  obtain ⟨p, hp, rfl⟩ := List.mem_map.mp hx
  rw [R.is p hp]
  exact leaS_lea (hs.mv _)
/-! rows between -/
end
end SG


set_option Elab.async false
set_option linter.all false
set_option maxRecDepth 100000
set_option maxHeartbeats 4000000
namespace SG
open PySem PySem.Spec L2
open PyProof.Rows hiding St
/-! ### rows and tables of a ring -/
section
variable {δ : Dr} {k n m : Nat} {s t x : Su} {w : Row} {y z : Tb}
theorem tab_pow (h : ∀ p ∈ w, p.2.natAbs ≤ 1) : Bd (2 ^ w.length) (tab w) := by
  have := tab_bd (j := 2) (by decide) w [] 0 (fun p hp _ => by have := h p hp; omega) ⟨by decide, by decide, by decide, by decide⟩
  rwa [Nat.zero_add, List.nil_append] at this
theorem row_small {L : Nat} (h : ∀ p ∈ w, p.2.natAbs ≤ 1) (hl : w.length ≤ L) (hL : L ≤ 90) : Bd (2 ^ L) (tab w) ∧ RowSm w ∧ (∀ p ∈ w, Many p.2) := by
  refine ⟨(tab_pow h).le (Nat.pow_le_pow_right (by decide) hl), rowSm_of (j := 2) (by decide) (fun p hp => by have := h p hp; omega) ?_, fun p hp => Nat.lt_of_le_of_lt (h p hp) (by decide +kernel)⟩
  exact Nat.le_trans (Nat.pow_le_pow_right (by decide) (show w.length + 1 ≤ 200 by omega)) (Nat.le_refl _)
theorem bd_many {B : Nat} (h : Bd B y) (hB : B < 10 ^ 30) : many4 y := ⟨Nat.lt_of_le_of_lt h.1 hB, Nat.lt_of_le_of_lt h.2.1 hB, Nat.lt_of_le_of_lt h.2.2.1 hB, Nat.lt_of_le_of_lt h.2.2.2 hB⟩
end
end SG


set_option Elab.async false
set_option linter.all false
set_option maxRecDepth 100000
set_option maxHeartbeats 4000000
namespace SG
open PySem PySem.Spec L2
open PyProof.Rows hiding St
/-! ### covers: sorted, under namings, on corners -/
section
variable {n m q x i : Nat} {s t : Nm × Nm} {f p c : Nm}
theorem pw_dvd (hc : IsN n c) (hi : i < n) {e : Nat} (h : ap (pw c e) i = i) : per c i ∣ e := by
  have h1 := pw_mod hc hi e
  have hp := per_ok hc hi
  have := pw_inj hc hi (Nat.mod_lt e hp.1) (show 0 < per c i from hp.1) (by rw [← h1, h]; show _ = ap (idN c.length) i; rw [hc.len, ap_id hi])
  exact Nat.dvd_of_mod_eq_zero this
theorem Cov.rnd (hs : Surf n s) (ht : Surf m t) (h : Cov n m s t f) : Tw n f (rndS s) (rndS t) := by
  have r' := Tw.back h.lt hs.r ht.r h.r
  have u' := Tw.back h.lt hs.u ht.u h.u
  exact Tw.then h.lt ((hs.r.back.then hs.u.back).then hs.r) ((ht.r.back.then ht.u.back).then ht.r) (Tw.then h.lt (hs.r.back.then hs.u.back) (ht.r.back.then ht.u.back) (Tw.then h.lt hs.r.back ht.r.back r' u') h.r) h.u
theorem Cov.cyc (hs : Surf n s) (ht : Surf m t) (h : Cov n m s t f) (hi : i < n) (hx : x ∈ cyc (rndS s) i) : ap f x ∈ cyc (rndS t) (ap f i) := by
  obtain ⟨j, rfl⟩ := (mem_cyc hs.rnd hi).mp hx
  exact (mem_cyc ht.rnd (h.lt i hi)).mpr ⟨j, (Tw.pw h.lt hs.rnd ht.rnd (h.rnd hs ht) j i hi).symm⟩
theorem Cov.per (hs : Surf n s) (ht : Surf m t) (h : Cov n m s t f) (hi : i < n) : per (rndS t) (ap f i) ∣ per (rndS s) i :=
  pw_dvd ht.rnd (h.lt i hi) (by rw [← Tw.pw h.lt hs.rnd ht.rnd (h.rnd hs ht) _ i hi, (per_ok hs.rnd hi).2.2.1])
theorem notin_eN (q : Nat) (a : Nm) : cmpSem .NotIn (eI q) (eN a) = some (decide (q ∉ a)) := by
  have h : inSem (eI q) (eN a) = some (decide (q ∈ a)) := in_eN q a
  show (inSem (eI q) (eN a)).map _ = _
  rw [h]
  simp
end
end SG


set_option Elab.async false
set_option linter.all false
set_option maxRecDepth 100000
set_option maxHeartbeats 4000000
namespace SG
open PySem PySem.Spec L2
open PyProof.Rows hiding St
/-! ### all namings in order; half turns under moves and names -/
def nlS (n : Nat) (L : List Nm) : List Nm := (L.map fun l => ((List.range n).filter fun i => decide (i ∉ l)).map fun i => l ++ [i]).flatten
def nlK (n : Nat) : Nat → List Nm
  | 0 => [[]]
  | k + 1 => nlS n (nlK n k)
section
variable {n m k : Nat} {s t s' t' : Nm × Nm} {p r f a : Nm} {δ : Dr} {d x : D} {w : Row}
theorem mem_nlK : ∀ k a, a ∈ nlK n k ↔ a.length = k ∧ a.Nodup ∧ ∀ i ∈ a, i < n
  | 0, a => by
    simp only [nlK, List.mem_singleton]
    constructor
    · rintro rfl; exact ⟨rfl, List.nodup_nil, fun _ h => nomatch h⟩
    · exact fun h => List.length_eq_zero_iff.mp h.1
  | k + 1, a => by
    simp only [nlK, nlS, List.mem_flatten, List.mem_map]
    constructor
    · rintro ⟨L, ⟨l, hl, rfl⟩, ha⟩
      obtain ⟨i, hi, rfl⟩ := List.mem_map.mp ha
      obtain ⟨h1, h2, h3⟩ := (mem_nlK k l).mp hl
      obtain ⟨hi, hn⟩ := List.mem_filter.mp hi
      have hn := of_decide_eq_true hn
      have hi := List.mem_range.mp hi
      refine ⟨by rw [List.length_append, h1]; rfl, ?_, fun j hj => ?_⟩
      · rw [List.nodup_append]
        exact ⟨h2, List.nodup_cons.mpr ⟨(fun h => nomatch h), List.nodup_nil⟩, fun u hu v hv e => hn (by rw [← List.mem_singleton.mp hv, ← e]; exact hu)⟩
      · rcases List.mem_append.mp hj with h | h
        · exact h3 j h
        · rw [List.mem_singleton.mp h]; exact hi
    · rintro ⟨h1, h2, h3⟩
      have hne : a ≠ [] := fun z => by rw [z] at h1; exact nomatch h1
      have e := List.dropLast_concat_getLast hne
      rw [← e] at h2
      rw [List.nodup_append] at h2
      refine ⟨_, ⟨a.dropLast, (mem_nlK k _).mpr ⟨by rw [List.length_dropLast, h1]; rfl, h2.1, fun i hi => h3 i (List.dropLast_subset a hi)⟩, rfl⟩, ?_⟩
      refine List.mem_map.mpr ⟨a.getLast hne, List.mem_filter.mpr ⟨List.mem_range.mpr (h3 _ (List.getLast_mem hne)), decide_eq_true fun z => h2.2.2 _ z _ (List.mem_singleton.mpr rfl) rfl⟩, e⟩
theorem mem_nl (a : Nm) : a ∈ nlK n n ↔ IsN n a := by
  rw [mem_nlK]
  exact ⟨fun h => isN_of h.1 h.2.2 h.2.1, fun h => ⟨h.len, h.nodup, fun i hi => h.mem.mp hi⟩⟩
theorem nl_up : ∀ n ∈ [1, 2, 3, 4], (nlK n n).Pairwise (· < ·) := by decide +kernel
theorem nl_ok : ∀ n ∈ [1, 2, 3, 4], ∀ i ∈ List.range n, nlK n i ≠ [] ∧ (nlK n i).length ≤ 24 ∧ (nlK n (i + 1)).length ≤ 24 ∧ ∀ l ∈ nlK n i, l.length ≤ 4 := by decide +kernel
theorem sum_eL {Ls : List (List Nm)} (h : Ls ≠ []) (hl : Ls.flatten.length ≤ LINE) : sSumL (.lst (Ls.map eL)) (.lst []) = some (eL Ls.flatten) := by
  have key : ∀ Ls : List (List Nm), lsts (Ls.map eL) = some (Ls.map fun l => l.map eN) := by
    intro Ls
    induction Ls with
    | nil => rfl
    | cons l Ls ih =>
      show (lsts (Ls.map eL)).map _ = _
      rw [ih]; rfl
  have e : (Ls.map fun l => l.map eN).flatten = Ls.flatten.map eN := by rw [List.map_flatten]
  cases Ls with
  | nil => exact absurd rfl h
  | cons l Ls =>
    have := key (l :: Ls)
    show (lsts ((l :: Ls).map eL)).bind _ = _
    rw [this]
    show (if _ then _ else _) = _
    rw [e, List.length_map, if_pos hl]
    rfl
theorem notin_l (q : Nat) (a : Nm) : cmpSem .NotIn (eI q) (.lst (a.map eI)) = some (decide (q ∉ a)) := notin_line q a
theorem notin_eL (x : Nm) (xs : List Nm) : cmpSem .NotIn (eN x) (eL xs) = some (!decide (x ∈ xs)) := by
  have h1 : pl DP (eN x) = true := pl_eN _ x
  have h2 : pl DP (.lst (xs.map eN)) = true := pl_eNs _ xs
  have : inSem (eN x) (.lst (xs.map eN)) = some (decide (x ∈ xs)) := by
    unfold inSem
    simp only [h1, h2, Bool.and_self, if_true, List.any_map]
    congr 1
    rw [Bool.eq_iff_iff, List.any_eq_true, decide_eq_true_eq]
    constructor
    · rintro ⟨y, hy, e⟩
      have e : deq (eN y) (eN x) = true := e
      rw [deq_eN, decide_eq_true_eq] at e
      exact e ▸ hy
    · intro h
      exact ⟨x, h, by show deq (eN x) (eN x) = true; rw [deq_eN]; simp⟩
  show (inSem (eN x) (.lst (xs.map eN))).map (!·) = _
  rw [this]
  rfl
theorem cov_key (hs : Surf n s) (ht : Surf n t) (hs' : Surf n s') (ht' : Surf n t') (c : Cov n n s s' p) (d : Cov n n t t' r) : srt ((covL n n s t).map fun g => thenN (thenN (backN p) g) r) = srt (covL n n s' t') := by
  have hp := c.naming hs hs'
  have hr := d.naming ht ht'
  have ci := c.inv hs hs'
  have di := d.inv ht ht'
  refine srt_of ?_ (covL_nodup hs') fun f => ?_
  · rw [List.nodup_iff_pairwise_ne, List.pairwise_map]
    have nd := covL_nodup (m := n) (t := t) hs
    rw [List.nodup_iff_pairwise_ne] at nd
    refine (List.Pairwise.and_mem.mp nd).imp fun ⟨hf, hg, hne⟩ e => hne ?_
    have h1 := covL_mem hf
    have h2 := covL_mem hg
    refine Cov.one_at hs h1 h2 hs.pos ?_
    have k := congrArg (fun x => ap x (ap p 0)) e
    change ap (thenN (thenN (backN p) _) r) (ap p 0) = ap (thenN (thenN (backN p) _) r) (ap p 0) at k
    have hp0 := hp.lt 0 hs.pos
    have hb := hp.back
    rw [ap_then (by rw [then_len, hb.len]; exact hp0), ap_then (by rw [hb.len]; exact hp0), ap_then (by rw [then_len, hb.len]; exact hp0), ap_then (by rw [hb.len]; exact hp0), hp.back_ap hs.pos] at k
    exact hr.inj _ _ (h1.lt 0 hs.pos) (h2.lt 0 hs.pos) k
  · rw [covL_iff hs', List.mem_map]
    constructor
    · rintro ⟨g, hg, rfl⟩
      exact (ci.comp hs' (covL_mem hg)).comp hs' d
    · intro hf
      refine ⟨thenN (thenN p f) (backN r), (covL_iff hs).mpr ((c.comp hs hf).comp hs di), ?_⟩
      have hfn := hf.naming hs' ht'
      rw [← then_assoc hp.back (hp.then hfn) hr.back, ← then_assoc hp.back hp hfn, back_then hp, id_then hfn, then_assoc hfn hr.back hr, back_then hr, then_id hfn]
theorem half_ren (hs : Surf n s) (hp : IsN n p) : srt ((halfL n s).map fun g => thenN (thenN (backN p) g) p) = halfL n (renS s p) := by
  have e3 : tuZ (renS s p) 2 = renS (tuZ s 2) p := mv_ren hs hp [SG.tu 2]
  have := cov_key hs hs.half (hs.ren hp) (hs.half.ren hp) (Cov.ren hs hp) (Cov.ren hs.half hp)
  unfold halfL
  rw [e3, ← this]
  exact srt_perm ((List.mergeSort_perm _ _).map _)
theorem half_ren_len (hs : Surf n s) (hp : IsN n p) : (halfL n (renS s p)).length = (halfL n s).length := by
  rw [← half_ren hs hp, srt_len, List.length_map]
theorem half_mv (hs : Surf n s) (h : Bd BIG (tab w)) : (halfL n (mvS s w)).length = (halfL n s).length := by
  obtain ⟨q, hq, e⟩ := lea_is_ren (hs.mv w)
  rw [← half_led hs (tab w), ← led_tab hs (tab_ok w) h rfl, e, half_ren_len (hs.mv w) hq]
theorem half_two (hs : Surf n s) : tuZ (tuZ s 2) 2 = s := by
  show (backN (backN s.1), backN (backN s.2)) = s
  rw [hs.r.back_back, hs.u.back_back]
theorem half_comp (hs : Surf n s) {f g : Nm} (hf : f ∈ halfL n s) (hg : g ∈ halfL n s) : thenN f g ∈ srt (covL n n s s) := by
  have cf := covL_mem (srt_mem.mp hf)
  have cg := covL_mem (srt_mem.mp hg)
  have cg2 : Cov n n (tuZ s 2) (tuZ (tuZ s 2) 2) g := (Cov.mv hs hs.half [SG.tu 2]).mpr cg
  rw [half_two hs] at cg2
  exact srt_mem.mpr ((covL_iff hs).mpr (cf.comp hs cg2))
theorem half_many (hs : Surf n s) : (halfL n s).length = 0 ∨ (halfL n s).length = (srt (covL n n s s)).length := by
  cases h : halfL n s with
  | nil => exact .inl rfl
  | cons f r =>
    right
    have cf := covL_mem (srt_mem.mp (show f ∈ srt (covL n n s (tuZ s 2)) from by unfold halfL at h; rw [h]; exact List.mem_cons_self))
    rw [← h]
    unfold halfL
    rw [srt_len, srt_len]
    exact cov_len hs hs hs hs.half (Cov.idC hs) cf
theorem half_of {ys : List Nm} (hs : Surf n s) (h : ((List.range n).map (cand n s (tuZ s 2))).filter (fun p => decide (renS s p = tuZ s 2)) = ys) (hy : ys.Pairwise (· < ·)) : halfL n s = ys := by
  unfold halfL
  rw [← cand_all hs hs.half, h]
  exact List.mergeSort_of_pairwise (hy.imp fun h => by rw [leN_eq, decide_eq_true_eq]; exact List.le_of_lt h)
theorem half_nl (hs : Surf n s) (h : n < 5) : (nlK n n).filter (fun p => decide (renS s p = tuZ s 2)) = halfL n s := by
  have hn := hs.pos
  have hm : n ∈ [1, 2, 3, 4] := by
    simp only [List.mem_cons, List.not_mem_nil, or_false]; omega
  unfold halfL
  refine (srt_is (covL_nodup hs) ((nl_up n hm).filter _) fun a => ?_).symm
  rw [covL_iff hs, List.mem_filter, mem_nl, decide_eq_true_eq]
  exact ⟨fun c => ⟨c.naming hs hs.half, (ren_cov hs hs.half (c.naming hs hs.half)).mpr c⟩, fun c => (ren_cov hs hs.half c.1).mp c.2⟩
theorem sp_half_bad (h : d ∈ badL ++ badM) : callN (k + 5) i_half_turns [d] δ = .exc x_BadSurface [] δ := by
  rw [cn_half_turns]
  exact run_exc rfl (by decide) (seq_exc (drop_exc (call_exc (cons_to (var_val rfl) nil_to) (sp_need_bad (k := k) h))))
theorem lt_len5 (n : Nat) : cmpSem .Lt (eI n) (.int 5) = some (decide (n < 5)) := by
  show some (decide ((n : Int) < 5)) = _
  congr 1
  exact decide_eq_decide.mpr (by omega)
theorem eq_eLL (xs ys : List Nm) : cmpSem .Eq (eL xs) (eL ys) = some (decide (xs = ys)) := by
  unfold cmpSem
  have h : pl DP (eL xs) = true := pl_eNs _ xs
  have h2 : pl DP (eL ys) = true := pl_eNs _ ys
  simp only [h, h2, Bool.and_self, if_true]
  unfold eL
  rw [deq_lst, deqs_map deq_eN]
end
end SG


set_option Elab.async false
set_option linter.all false
set_option maxRecDepth 100000
set_option maxHeartbeats 4000000
namespace SG
open PySem PySem.Spec L2
open PyProof.Rows hiding St
section
variable {δ : Dr} {k n m : Nat} {s t : Nm × Nm} {C : Ctx}
def rot3 : Nm × Nm := ([1, 2, 0], [0, 1, 2])
theorem rot3_ok : Surf 3 rot3 := Surf.rot (n := 3) (by decide) (by decide) (isN_of (by decide) (by decide) (by decide))
theorem sp_namings19 (hn : n ∈ [1, 2, 3, 4]) : callN 29 i__law_namings [eI n] δ = .ok (eL (nlK n n)) δ := by
  rw [cn__law_namings]
  have hn4 : n ≤ 4 := by
    simp only [List.mem_cons, List.not_mem_nil, or_false] at hn; omega
  obtain ⟨ρ', δ2, g1, rfl, s2, rfl⟩ := for_inv (C := ⟨callN 28⟩) (g := .n 2) (b := (dSet 1 (zV (dFun2 sSumL (dLc (dIt (dPeek 1)) (.n 3) (fun _ _ => M.pure true) (dLc (dRng1 (dVar 0)) (.n 4) (dCmp .NotIn (dPeek 4) (dPeek 3)) (dBin .Add (dPeek 3) (dTup (dCons (dVar 4) (dNil)))) [4]) [3]) (dLst (dNil)))))) (ds := rngD 0 n) (ρ := [.val (eI n), .val (eL (nlK n 0)), .no, .no, .no]) (δ := δ) (fun i ρ δ' => δ' = δ ∧ ∃ s2 : Sl, ρ = [.val (eI n), .val (eL (nlK n i)), s2, .no, .no]) (fun i hi ρ δ hI => by
    obtain ⟨rfl, s2, rfl⟩ := hI
    rw [rng_len] at hi
    obtain ⟨o1, o2, o3, o4⟩ := nl_ok n hn i (List.mem_range.mpr hi)
    have e : ((nlK n i).map fun l => D.lst (((List.range n).filter fun i => decide (i ∉ l)).map fun i => eN (l ++ [i]))) = ((nlK n i).map fun l => ((List.range n).filter fun i => decide (i ∉ l)).map fun i => l ++ [i]).map eL := by
      rw [List.map_map]
      refine List.map_congr_left fun l _ => ?_
      show D.lst _ = D.lst (List.map eN (List.map _ _))
      rw [List.map_map]; rfl
    have v : sSumL (.lst ((nlK n i).map fun l => D.lst (((List.range n).filter fun i => decide (i ∉ l)).map fun i => eN (l ++ [i])))) (.lst []) = some (eL (nlK n (i + 1))) := by
      rw [e]
      exact sum_eL (by intro z; exact o1 (List.map_eq_nil_iff.mp z)) (small_line (Nat.le_trans o3 (by decide)))
    refine ⟨_, [.val (eI n), .val (eL (nlK n (i + 1))), .val _, .no, .no], δ, rfl, .inl (set_to (zv_to (fun2_to (lc_mp (xs := nlK n i) (f := eN) (it_to (peek_val rfl) rfl) rfl (small_line (by omega)) fun l hl => ⟨_, rfl, fun δ => ?_⟩) (lst_to nil_to (show 0 ≤ LINE by decide)) v))), rfl, _, rfl⟩
    refine lc_fl (xs := List.range n) (f := eI) (p := fun i => decide (i ∉ l)) (y := fun i => eN (l ++ [i])) ((rng1_to (n := n) (var_val rfl) (by omega)).trans (by rw [rng_eI])) rfl (by rw [List.length_range]; exact small_line (by omega)) fun j hj => ⟨_, rfl, fun δ => cmp_to (peek_val rfl) (peek_val rfl) (notin_eN j l), fun _ δ => bin_to (peek_val rfl) (tup_to (cons_to (var_val rfl) nil_to) (show 1 ≤ LINE by decide)) ?_⟩
    have := add_tup (a := l.map eI) (b := [eI j]) (by rw [List.length_map, List.length_singleton]; have := o4 l hl; omega)
    rw [show l.map eI ++ [eI j] = (l ++ [j]).map eI by rw [List.map_append]; rfl] at this
    exact this) ⟨rfl, _, rfl⟩
  rw [rng_len] at g1
  refine run_rt rfl (by decide) ?_
  unfold c__law_namings
  refine seq_to (ρ' := [.val (eI n), .val (eL (nlK n 0)), .no, .no, .no]) (δ1 := δ2) (set_to (zv_to (lst_to (cons_to (tup_to nil_to (show 0 ≤ LINE by decide)) nil_to) (show 1 ≤ LINE by decide)))) ?_
  refine seq_to ((dFor_to (rng1_to (n := n) (var_val rfl) (by omega))).trans g1) ?_
  exact ret_to (var_val rfl)
theorem sp_right19 : ∃ δ', callN 30 i__law_right [.draw] δ = .ok (.bl true) δ' := by
  rw [cn__law_right]
  obtain ⟨most, δ0, hm, e0⟩ := pick_of (f := eI) (xs := [3, 4, 5, 6]) (k := 26) (δ := δ) (by decide) (by decide)
  have hm2 : 1 ≤ most ∧ most ≤ 6 := by
    simp only [List.mem_cons, List.not_mem_nil, or_false] at hm; omega
  obtain ⟨n, s, δ1, hnm, hs, e1⟩ := sp_law_surface (k := 24) (δ := δ0) (most := most) hm2.1 hm2.2
  have hn1 := hs.pos
  have hn6 := hs.most
  have lens : sLen (eN s.1) = some (eI n) := by rw [len_eN, hs.r.len]
  have e2 := sp_law_halves (k := 25) (δ := δ1) hs
  have e3 := sp_law_renamings (k := 26) (δ := δ1) hs hs
  have f1 := sp_half_turns (k := 24) (δ := δ1) hs
  have hHc : ∀ f ∈ (halfL n s), Cov n n s (tuZ s 2) f := fun f hf => covL_mem (srt_mem.mp hf)
  have hHl : (halfL n s).length ≤ 6 := by unfold halfL; rw [srt_len]; exact Nat.le_trans covL_len hn6
  have hSl : (srt (covL n n s s)).length ≤ 6 := by rw [srt_len]; exact Nat.le_trans covL_len hn6
  have f2 : callN 29 i__law_says [.lst [eT (halfL n s), eT (halfL n s)], .lst [eT (halfL n s), eT (halfL n s)]] δ1 = .ok (.bl true) δ1 := says_of (k := 27) (n := 3) (by decide) (by simp [pl, pls, pl_eT]) (by
    have := nc_eT (xs := (halfL n s)) (n := n) fun a ha => (hHc a ha).len
    have h2 : (halfL n s).length * (1 + n) ≤ 6 * 7 := Nat.mul_le_mul hHl (by omega)
    show 1 + (nc (eT _) + (nc (eT _) + 0)) ≤ 1000
    omega)
  have f3 : cmpSem .NotIn (eI (halfL n s).length) (.lst [.int 0, eI (srt (covL n n s s)).length]) = some false := by
    have := notin_l (halfL n s).length [0, (srt (covL n n s s)).length]
    rw [decide_eq_false (by
      rw [Classical.not_not]
      rcases half_many hs with h | h
      · rw [h]; exact List.mem_cons_self
      · rw [h]; exact List.mem_cons_of_mem _ List.mem_cons_self)] at this
    exact this
  have g5 : ∃ s7 : Sl, (dIfS (dCmp .Lt (dFun1 sLen (dIx (dPeek 1) (dC (.int 0)))) (dC (.int 5))) (dSeq (dSet 7 (zV (dFun1 sTuple (dLc (dIt (dPeek 1)) (.n 9) (fun _ _ => M.pure true) (dCall i__law_back (dCons (dVar 9) (dNil))) [9])))) (dIfS (dCmp .NotEq (dFun1 sList (dPeek 2)) (dLc (dIt (dCall i__law_namings (dCons (dFun1 sLen (dIx (dPeek 1) (dC (.int 0)))) (dNil)))) (.n 5) (dCmp .Eq (dCall i__law_renamed (dCons (dVar 1) (dCons (dVar 5) (dNil)))) (dPeek 7)) (dVar 5) [5])) (dRet (dC (.bl false))) (dNop))) (dNop)) ⟨callN 29⟩ [.val .draw, .val (eS s), .val (eT (halfL n s)), .val (eL (srt (covL n n s s))), .no, .no, .no, .no, .no, .no, .no] δ1 = .ok (.nx [.val .draw, .val (eS s), .val (eT (halfL n s)), .val (eL (srt (covL n n s s))), .no, .no, .no, s7, .no, .no, .no]) δ1 := by
    by_cases h5 : n < 5
    · have hm4 : n ∈ [1, 2, 3, 4] := by
        simp only [List.mem_cons, List.not_mem_nil, or_false]; omega
      have y1 := sp_namings19 (δ := δ1) hm4
      obtain ⟨_, _, _, _⟩ := nl_ok n hm4 0 (List.mem_range.mpr hn1)
      have hl24 : (nlK n n).length ≤ 24 := by
        have := (nl_ok n hm4 (n - 1) (List.mem_range.mpr (by omega))).2.2.1
        rwa [Nat.sub_add_cancel hn1] at this
      refine ⟨.val (eS (tuZ s 2)), ifs_t (cmp_to (fun1_to (ix_to (peek_val rfl) c_to (ix0 s)) lens) c_to (by rw [lt_len5, decide_eq_true h5])) ?_⟩
      refine seq_to (ρ' := [.val .draw, .val (eS s), .val (eT (halfL n s)), .val (eL (srt (covL n n s s))), .no, .no, .no, .val (eS (tuZ s 2)), .no, .no, .no]) (δ1 := δ1) (set_to (zv_to (fun1_to (lc_mp (xs := [s.1, s.2]) (f := eN) (y := fun a => eN (backN a)) (it_to (peek_val rfl) rfl) rfl (show 2 ≤ LINE by decide) fun a ha => ⟨_, rfl, fun δ => callK (cons_to (var_val rfl) nil_to) (sp_law_back (k := 28) (n := n) ?_ (by omega))⟩) (show sTuple (.lst [eN (backN s.1), eN (backN s.2)]) = some (eS (tuZ s 2)) from rfl)))) ?_
      · simp only [List.mem_cons, List.not_mem_nil, or_false] at ha
        rcases ha with rfl | rfl
        · exact hs.r
        · exact hs.u
      refine ifs_nop (cmp_to (y := eL (halfL n s)) (fun1_to (peek_val rfl) (e := eL (halfL n s)) rfl) ?_ (by rw [ne_eLL]; simp))
      rw [show eL (halfL n s) = .lst (((nlK n n).filter fun p => decide (renS s p = tuZ s 2)).map eN) by rw [half_nl hs h5]; rfl]
      refine lc_fl (xs := nlK n n) (f := eN) (p := fun p => decide (renS s p = tuZ s 2)) (y := eN) (it_to (callK (cons_to (fun1_to (ix_to (peek_val rfl) c_to (ix0 s)) lens) nil_to) y1) rfl) rfl (small_line (by omega)) fun p hp => ⟨_, rfl, fun δ => ?_, fun _ δ => var_val rfl⟩
      have z := sp_law_renamed (k := 27) (δ := δ) hs.r hs.u ((mem_nl p).mp hp) (by omega)
      exact cmp_to (callK (cons_to (var_val rfl) (cons_to (var_val rfl) nil_to)) z) (peek_val rfl) (eq_eS _ _)
    · exact ⟨.no, ifs_nop (cmp_to (fun1_to (ix_to (peek_val rfl) c_to (ix0 s)) lens) c_to (by rw [lt_len5, decide_eq_false h5]))⟩
  obtain ⟨s7, g5⟩ := g5
  obtain ⟨row, δ2, hrl, hr1, e4⟩ := sp_small_row1 (k := 25) (δ := δ1) (most := 5) (by decide)
  have e5 := sp_law_moved (k := 25) (δ := δ2) hs row
  obtain ⟨p, δ3, hp, e6⟩ := sp_naming (k := 25) (δ := δ2) (n := n) (by omega)
  obtain ⟨bw, _, _⟩ := row_small (L := 5) hr1 hrl (by decide)
  have Mw := bd_many bw (by decide +kernel)
  have e7 := sp_half_turns (k := 24) (δ := δ3) (hs.mv row)
  have q1 : cmpSem .NotEq (eI (halfL n (mvS s row)).length) (eI (halfL n s).length) = some false := by
    rw [half_mv hs (many4_bd Mw), ne_len]; simp
  have v9 : sSorted (.lst ((halfL n s).map fun g => eN (thenN (thenN (backN p) g) p))) = some (eL (halfL n (renS s p))) := by
    have := sort_eN (xs := (halfL n s).map fun g => thenN (thenN (backN p) g) p) (by rw [List.length_map]; exact small_line (by omega)) (fun a ha z => by
      obtain ⟨g, hg, e⟩ := List.mem_map.mp ha
      have h1 := (hHc g hg).naming hs hs.half
      have h2 := ((hp.back.then h1).then hp).len
      rw [e, z] at h2
      simp at h2
      omega)
    rw [half_ren hs hp, List.map_map] at this
    show (sortD _).map D.lst = _
    rw [show ((halfL n s).map fun g => eN (thenN (thenN (backN p) g) p)) = (halfL n s).map (eN ∘ fun g => thenN (thenN (backN p) g) p) from rfl, this]
    rfl
  have e8 := sp_law_renamed (k := 27) (δ := δ3) hs.r hs.u hp (by omega)
  have e9 := sp_half_turns (k := 24) (δ := δ3) (hs.ren hp)
  obtain ⟨bad, δ4, hbad, e10⟩ := sp_no_surface (k := 25) (δ := δ3)
  have e11 := sp_half_bad (k := 24) (δ := δ4) hbad
  refine ⟨δ4, run_rt rfl (by decide) ?_⟩
  unfold c__law_right
  refine seq_to (ρ' := [.val .draw, .val (eS s), .no, .no, .no, .no, .no, .no, .no, .no, .no]) (δ1 := δ1) (set_to (zv_to (callK (cons_to (var_val rfl) (cons_to (callK (cons_to (var_val rfl) (cons_to (lst_to (cons_to c_to (cons_to c_to (cons_to c_to (cons_to c_to nil_to)))) (show 4 ≤ LINE by decide)) nil_to)) e0) nil_to)) e1))) ?_
  refine seq_to (ρ' := [.val .draw, .val (eS s), .val (eT (halfL n s)), .val (eL (srt (covL n n s s))), .no, .no, .no, .no, .no, .no, .no]) (δ1 := δ1) (par2_W rfl (zv_to (fun1_to (e := eT (halfL n s)) (callK (cons_to (var_val rfl) nil_to) e2) rfl)) (zv_to (callK (cons_to (var_val rfl) (cons_to (var_val rfl) nil_to)) e3))) ?_
  refine seq_to (ρ' := [.val .draw, .val (eS s), .val (eT (halfL n s)), .val (eL (srt (covL n n s s))), .no, .no, .no, .no, .no, .no, .no]) (δ1 := δ1) (ifs_nop (or_f (not_to (b := true) (tst_to (callK (cons_to (lst_to (cons_to (callK (cons_to (var_val rfl) nil_to) f1) (cons_to (callK (perm_to (cons_to (var_val rfl) nil_to) rfl) f1) nil_to)) (show 2 ≤ LINE by decide)) (cons_to (lst_to (cons_to (var_val rfl) (cons_to (var_val rfl) nil_to)) (show 2 ≤ LINE by decide)) nil_to)) f2))) (cmp_to (fun1_to (peek_val rfl) (len_eT _)) (lst_to (cons_to c_to (cons_to (fun1_to (peek_val rfl) (len_eL _)) nil_to)) (show 2 ≤ LINE by decide)) f3))) ?_
  refine seq_to (ρ' := [.val .draw, .val (eS s), .val (eT (halfL n s)), .val (eL (srt (covL n n s s))), .no, .no, .no, s7, .no, .no, .no]) (δ1 := δ1) g5 ?_
  refine seq_to (ρ' := [.val .draw, .val (eS s), .val (eT (halfL n s)), .val (eL (srt (covL n n s s))), .no, .no, .no, s7, .no, .no, .no]) (δ1 := δ1) (ifs_nop (cmp_to (x := .lst []) (y := .lst []) (lc_non (xs := (halfL n s)) (f := eN) (it_to (peek_val rfl) (it_eT _)) rfl (small_line (by omega)) fun f hf => ⟨_, rfl, fun δ => cmp_to (x := .lst []) (y := .lst []) (lc_non (xs := (halfL n s)) (f := eN) (it_to (peek_val rfl) (it_eT _)) rfl (small_line (by omega)) fun g hg => ⟨_, rfl, fun δ => ?_⟩) (lst_to nil_to (show 0 ≤ LINE by decide)) rfl⟩) (lst_to nil_to (show 0 ≤ LINE by decide)) rfl)) ?_
  · have z := sp_law_then (k := 28) (δ := δ) ((hHc f hf).naming hs hs.half) ((hHc g hg).naming hs hs.half) (by omega)
    exact cmp_to (callK (cons_to (var_val rfl) (cons_to (var_val rfl) nil_to)) z) (peek_val rfl) (by rw [notin_eL, decide_eq_true (half_comp hs hf hg)]; rfl)
  refine seq_to (ρ' := [.val .draw, .val (eS s), .val (eT (halfL n s)), .val (eL (srt (covL n n s s))), .val (eS (mvS s row)), .val (eN p), .no, s7, .no, .no, .no]) (δ1 := δ3) (par2_W rfl (zv_to (callK (cons_to (var_val rfl) (cons_to (callK (cons_to (var_val rfl) (cons_to c_to nil_to)) e4) nil_to)) e5)) (zv_to (callK (cons_to (var_val rfl) (cons_to (fun1_to (ix_to (peek_val rfl) c_to (ix0 s)) lens) nil_to)) e6))) ?_
  refine seq_to (ρ' := [.val .draw, .val (eS s), .val (eT (halfL n s)), .val (eL (srt (covL n n s s))), .val (eS (mvS s row)), .val (eN p), .no, s7, .no, .no, .no]) (δ1 := δ3) (ifs_nop (cmp_to (fun1_to (callK (cons_to (var_val rfl) nil_to) e7) (len_eT _)) (fun1_to (peek_val rfl) (len_eT _)) q1)) ?_
  refine seq_to (ρ' := [.val .draw, .val (eS s), .val (eT (halfL n s)), .val (eL (srt (covL n n s s))), .val (eS (mvS s row)), .val (eN p), .val (eL (halfL n (renS s p))), s7, .no, .no, .no]) (δ1 := δ3) (set_to (zv_to (fun1_to (lc_mp (xs := (halfL n s)) (f := eN) (y := fun g => eN (thenN (thenN (backN p) g) p)) (it_to (peek_val rfl) (it_eT _)) rfl (small_line (by omega)) fun g hg => ⟨_, rfl, fun δ => ?_⟩) v9))) ?_
  · have h1 := (hHc g hg).naming hs hs.half
    have y1 := sp_law_back (k := 28) (δ := δ) hp (by omega)
    have y2 := sp_law_then (k := 28) (δ := δ) hp.back h1 (by omega)
    have y3 := sp_law_then (k := 28) (δ := δ) (hp.back.then h1) hp (by omega)
    exact callK (cons_to (callK (cons_to (callK (cons_to (var_val rfl) nil_to) y1) (cons_to (var_val rfl) nil_to)) y2) (cons_to (var_val rfl) nil_to)) y3
  refine ret_to (andV_t (bl_to (cmp_to (fun1_to (e := eL (halfL n (renS s p))) (callK (cons_to (callK (cons_to (var_val rfl) (cons_to (var_val rfl) nil_to)) e8) nil_to) e9) rfl) (peek_val rfl) (by rw [eq_eLL]; simp))) ?_)
  exact fun1_to (caught_exc (call_exc (cons_to (callK (cons_to (var_val rfl) nil_to) e10) nil_to) e11)) rfl
def Inv (ns : List Int) (ρ : Sls) : Prop := ∃ a2 : Sl, ρ = [.val (.scr ns), .val .draw, a2]
theorem law (ns : List Int) (hns : ns.length ≤ 63) : ∃ δ', c_law ⟨callN 30⟩ (.val (.scr ns) :: .val .draw :: List.replicate (N_law.length - 2) .no) (dr0 ns) = .ok (.rt (.bl true)) δ' := by
  show ∃ δ', c_law ⟨callN 30⟩ [.val (.scr ns), .val .draw, .no] (dr0 ns) = _
  unfold c_law
  refine for_nx (Inv ns) (laps (a := 4) (b := 9) (by decide) (by decide) rfl) ?_ ⟨_, rfl⟩ fun ρ δ hI => ⟨δ, ?_⟩
  · intro d _ ρ δ hI
    obtain ⟨a2, rfl⟩ := hI
    obtain ⟨δ1, e1⟩ := sp_right19 (δ := δ)
    refine ⟨_, rfl, ?_⟩
    refine body_nx (ρ2 := [.val (.scr ns), .val .draw, .val d]) (δ2 := δ1) ?_ ⟨_, rfl⟩
    exact ifs_nop (not_to (b := true) (tst_to (callK (cons_to (var_val rfl) nil_to) e1)))
  · obtain ⟨a2, rfl⟩ := hI
    have x1 := sp_half_turns (k := 25) (δ := δ) ell3_ok
    have x2 := sp_half_turns (k := 25) (δ := δ) one1_ok
    have x3 := sp_half_turns (k := 25) (δ := δ) rot3_ok
    rw [half_of ell3_ok (ys := [[0, 1, 2]]) (by decide) (by decide)] at x1
    rw [half_of one1_ok (ys := [[0]]) (by decide) (by decide)] at x2
    rw [half_of rot3_ok (ys := [[0, 2, 1], [1, 0, 2], [2, 1, 0]]) (by decide) (by decide)] at x3
    have x4 : callN 30 i__law_says [.lst [eT [[0, 1, 2]], eT [[0]], eI 3], .lst [eT [[0, 1, 2]], eT [[0]], eI 3]] δ = .ok (.bl true) δ := says_of (k := 28) (n := 3) (by decide) (by simp [pl, pls, pl_eT, pl_int]) (by decide)
    exact ret_to (callK (cons_to (lst_to (cons_to (callK (cons_to (tup_to (cons_to (tup_to (cons_to c_to (cons_to c_to (cons_to c_to nil_to))) (show 3 ≤ LINE by decide)) (cons_to (tup_to (cons_to c_to (cons_to c_to (cons_to c_to nil_to))) (show 3 ≤ LINE by decide)) nil_to)) (show 2 ≤ LINE by decide)) nil_to) x1) (cons_to (callK (cons_to (tup_to (cons_to (tup_to (cons_to c_to nil_to) (show 1 ≤ LINE by decide)) (cons_to (tup_to (cons_to c_to nil_to) (show 1 ≤ LINE by decide)) nil_to)) (show 2 ≤ LINE by decide)) nil_to) x2) (cons_to (fun1_to (callK (cons_to (tup_to (cons_to (tup_to (cons_to c_to (cons_to c_to (cons_to c_to nil_to))) (show 3 ≤ LINE by decide)) (cons_to (tup_to (cons_to c_to (cons_to c_to (cons_to c_to nil_to))) (show 3 ≤ LINE by decide)) nil_to)) (show 2 ≤ LINE by decide)) nil_to) x3) (e := eI 3) rfl) nil_to))) (show 3 ≤ LINE by decide)) (cons_to (lst_to (cons_to (tup_to (cons_to (tup_to (cons_to c_to (cons_to c_to (cons_to c_to nil_to))) (show 3 ≤ LINE by decide)) nil_to) (show 1 ≤ LINE by decide)) (cons_to (tup_to (cons_to (tup_to (cons_to c_to nil_to) (show 1 ≤ LINE by decide)) nil_to) (show 1 ≤ LINE by decide)) (cons_to c_to nil_to))) (show 3 ≤ LINE by decide)) nil_to)) x4)
end
end SG


theorem PySem.Challenge.cw_squaresglued_k19_whole_half_turns_holds : PySem.Challenge.rw_squaresglued_k19_whole_half_turns.Holds := by
  exact SG.law_holds (SG.callN_eq ▸ SG.law)
