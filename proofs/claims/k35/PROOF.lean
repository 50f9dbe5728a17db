import PyProof.Rows.All
import Wide.All
import OpenK.AllK
import Wide.FinOn
import HandS.ForMost
import HandS.Walk
import HandS.TupAny
import HandS.TupMul
import HandS.ExcOwn
import HandS.WordsExc
import HandS.Lambda
import HandS.HotCalls
import HandS.ExcField
import HandS.ExcIs
import HandS.ExcInit
import HandS.TryOnly
import KE.KExcIs
import KE.KIsAll
import HandS.EndTab
import HandS.TupLen
import HandS.DictTup
import KE.DataEq
import KE.DataFind
import KE.DataIsa
import KE.DataCmp
import KE.SortData
import HandS.Flow
import HandS.Style
import HandS.Wide
import HandS.Codes
import KE.DataAny
import KE.DataMinMax
import KE.DatumIndex
import HandS.Strs
import KE.KTupSum
import KE.GoesNew
import HandS.Small
import PyProof.FitsInt
import HandS.SortKw
import PyProof.TupleOfSeq
import HandS.Conv
import KE.DatumOrd
import HandS.More
import HandS.RaiseMore
import KE.KDictPairs
import HandS.Exc
import KE.SortKeyHeap
import KE.KItemsList
import HandS.WideBits
import PyProof.ExcBaseAll.ValueError
import PyProof.OldK
import KE.DatumMoreOrd
import PySem.Challenge.RW_bentstones_k35_picks_within_a_miss
set_option Elab.async false
set_option autoImplicit false
set_option linter.all false
set_option maxRecDepth 100000
set_option maxHeartbeats 4000000
namespace PV
open PySem PySem.Spec PyProof.Rows L2
section
/-! ## tuples made, their objects known: no dict of their own -/
section
variable {X : Cx} {pins : List (Addr × Obj)} {σ : L2.St} {H : Hp} {s : Shared}
abbrev tupO (its : Array Value) : Obj := { cls := .type "tuple", data := .seq its }
/-- a tuple new on the heap, its object pinned -/
theorem tup_laid {us : List Value} {xs : List V} {tk : Nat} (I : Inv X pins σ H s) (r : L2.Vals xs us) (z : xs.length ≤ sizeLine) :
    Inv X pins σ (upd H s.heap.objs.size (.frz (tupO us.toArray) (.tup xs))) { s with heap := s.heap.push (tupO us.toArray), toks := tk } ∧ H s.heap.objs.size = none := by
  have get : (s.heap.push (tupO us.toArray)).get? s.heap.objs.size = some (tupO us.toArray) := Heap.get?_push_size _ rfl
  refine ⟨I.laid (fun b ob e => Heap.get?_push_of_some _ e) (Nat.le_refl _) ?_, I.hok.fresh (Nat.le_refl _)⟩
  exact ⟨get, z, us, r, ⟨_, get, rfl, _, rfl⟩⟩
/-- what a rule hands on: the tuple's object has no dict -/
def NewT (H : Hp) (Q : VK) (xs : List V) : Prop := ∀ (p : Addr) (ob : Obj), H p = none → ob.dict = none → Q (.ref p) (upd H p (.frz ob (.tup xs)))
theorem NewT.at' {Q : VK} {us : List Value} {xs : List V} {tk : Nat} (q : NewT H Q xs) (I : Inv X pins σ H s) (r : L2.Vals xs us) (z : xs.length ≤ sizeLine) : EP X pins σ Q (.ref s.heap.objs.size) { s with heap := s.heap.push (tupO us.toArray), toks := tk } := by
  obtain ⟨J, n⟩ := tup_laid (tk := tk) I r z
  exact ⟨.ref s.heap.objs.size, _, J, rfl, q _ _ n rfl⟩
theorem pe_tupN {es : List Expr} {t : TA} {j : Nat} {pos : Pos} (h : PA X es t) : PE X (.Tuple es j pos) (fun σ H Q => t σ H fun xs H1 => xs.length ≤ sizeLine ∧ NewT H1 Q xs) := by
  refine ⟨fun pins s σ H Q I ht => wpAny_Tuple_spliced (thn (h.run pos pins s σ H _ I ht) fun us s1 hu => ?_)⟩
  obtain ⟨xs, H1, J, r, z, q⟩ := hu
  exact ⟨r.length ▸ z, q.at' (tk := s1.toks) J r z⟩
theorem op_catN : OpR X (binaryOp .Add) (fun x y H Q => ∃ a b xs ys, x = .ref a ∧ y = .ref b ∧ SqT X.K H a xs ∧ SqT X.K H b ys ∧ xs.length + ys.length ≤ sizeLine ∧ (xs = [] → Q (.ref b) H) ∧ (xs ≠ [] → ys = [] → Q (.ref a) H) ∧ (xs ≠ [] → ys ≠ [] → NewT H Q (xs ++ ys))) := by
  intro pins s σ H x y v u Q I rx ry h
  obtain ⟨a, b, xs, ys, rfl, rfl, ha, hb, hz, q0, q1, q2⟩ := h
  cases rx; cases ry
  obtain ⟨ia, ra, ta, _⟩ := I.tuple ha
  obtain ⟨ib, rb, tb, _⟩ := I.tuple hb
  rcases Classical.em (xs = []) with e | e
  · subst e
    cases ra
    exact cat_tup0 ta tb ⟨.ref b, H, I, rfl, q0 rfl⟩
  · have hl : ia.length + ib.length ≤ sizeLine := by rw [← ra.length, ← rb.length]; exact hz
    refine HT.cat_tup ta tb (fun w => e (ra.nil_iff.mp w)) (fun w => ⟨.ref a, H, I, rfl, q1 e (rb.nil_iff.mp w)⟩) (fun w => ?_) hl
    exact (q2 e (fun w2 => w (rb.nil_iff.mpr w2))).at' (tk := s.toks) I (ra.append rb) (by rw [List.length_append]; exact hz)
theorem sl_tupN : SlR X (fun x lo hi H Q => ∃ a xs, x = .ref a ∧ SqT X.K H a xs ∧ (HT.sIx xs.length 0 lo = 0 ∧ HT.sIx xs.length xs.length hi = xs.length → Q (.ref a) H) ∧ (¬ (HT.sIx xs.length 0 lo = 0 ∧ HT.sIx xs.length xs.length hi = xs.length) → NewT H Q (cutV xs lo hi))) := by
  intro pins s σ H x v vl vu lo hi sl Q I rx hs pl pu h
  obtain ⟨a, xs, rfl, hx, q1, q2⟩ := h
  cases rx
  obtain ⟨its, r, ht, hz⟩ := I.tuple hx
  have n : its.toArray.size = xs.length := by rw [List.size_toArray, r.length]
  refine ⟨"tuple", _, PyProof.Rows.slot_tuple_getitem.lookup, ht.typeIs, ?_⟩
  rcases Classical.em (HT.sIx xs.length 0 lo = 0 ∧ HT.sIx xs.length xs.length hi = xs.length) with w | w
  · exact getItem_tuple_whole ht hs pl pu (n ▸ w) ⟨.ref a, H, I, rfl, q1 w⟩
  · refine HT.getItem_tuple_cut ht hs pl pu (by rw [n]; exact w) ?_ (by rw [n]; exact hz)
    rw [n]
    exact (q2 w).at' (tk := s.toks) I ((r.drop _).take _) (Nat.le_trans (cutV_length xs lo hi) hz)
theorem call_tupleN : CallR X (.type "tuple") (fun xs H Q => ∃ p ys, xs = [.ref p] ∧ ((SqL X.K H p ys ∧ NewT H Q ys) ∨ (SqT X.K H p ys ∧ Q (.ref p) H))) := by
  intro pins s σ H xs us Q I r h
  obtain ⟨p, ys, rfl, h⟩ := h
  obtain ⟨u, rfl, ru⟩ := vals1 r
  cases ru
  rcases h with h | h
  · obtain ⟨its, r2, pl, hz⟩ := I.list h.1
    have n := r2.length
    refine call_tuple_list pl.isList (fun h2 up => ?_) (by rw [List.size_toArray]; omega)
    exact h.2.at' (s := { s with heap := h2 }) (tk := s.toks) (I.kept (t' := s.toks) up) r2 hz
  · obtain ⟨its, _, pl, _⟩ := I.tuple h.1
    exact call_tuple_same pl ⟨.ref p, H, I, rfl, h.2⟩
theorem op_repN : OpR X (binaryOp .Mult) (fun x y H Q => ∃ a k xs, x = .ref a ∧ y = .int k ∧ SqT X.K H a xs ∧ xs ≠ [] ∧ 2 ≤ k ∧ k ≤ 1000 ∧ xs.length ≤ 1000 ∧ NewT H Q (List.replicate k.toNat xs).flatten) := by
  intro pins s σ H x y v u Q I rx ry h
  obtain ⟨a, k, xs, rfl, rfl, hT, hne, k2, k1000, hz, q⟩ := h
  cases rx
  obtain ⟨t, rfl⟩ := ry
  obtain ⟨its, r, ⟨⟨cls, dd, dat, sl⟩, ho, hc, n, hd⟩, _⟩ := I.tuple hT
  obtain rfl : cls = .type "tuple" := hc
  obtain rfl : dat = .seq its.toArray n := hd
  have len : its.length = xs.length := r.length.symm
  have ne : its.toArray.isEmpty = false := by
    cases its with
    | nil => exact absurd (List.eq_nil_of_length_eq_zero len.symm) hne
    | cons _ _ => rfl
  have sz : its.toArray.size = xs.length := by rw [List.size_toArray, len]
  have prod : ((its.toArray.size : Nat) : Int) * k ≤ 1000000 := by
    rw [sz]
    have := Int.mul_le_mul (show ((xs.length : Nat) : Int) ≤ 1000 by omega) k1000 (by omega) (by omega)
    omega
  have fl : ∀ {α : Type} (ys : List α), ys.length ≤ 1000 → (List.replicate k.toNat ys).flatten.length ≤ sizeLine := fun ys hy => by
    rw [PyProof.Rows.lm_len_rep_flat, sizeLine_eq]
    exact Nat.le_trans (Nat.mul_le_mul (show k.toNat ≤ 1000 by omega) hy) (by decide)
  have b0 : (decide (k < -(2 ^ 63)) || decide (k ≥ 2 ^ 63)) = false := by rw [decide_eq_false (by omega), decide_eq_false (by omega)]; rfl
  have b1 : (its.toArray.isEmpty || k == 1) = false := by rw [ne]; exact beq_eq_false_iff_ne.mpr (by omega)
  have b2 : (decide (k ≤ 0) || its.toArray.isEmpty) = false := by rw [ne, decide_eq_false (by omega)]; rfl
  have b4 : Builtin.Tuple.tupleTooMany (((its.toArray.size : Nat) : Int) * k) = false := by
    unfold Builtin.Tuple.tupleTooMany
    rw [sizeLine_eq, decide_eq_false]
    omega
  refine wpAny_binaryOp_repeat_ref (T := "tuple") (U := "int") (by decide) ⟨_, ho, rfl⟩ (fun s2 => typeIs_int s2 k t) noFill_tuple_mul F.fills_int_mul F.slot_int_rmul repeat_tuple F.slot_int_index.lookup (call_meets F.slot_int_rmul (typeIs_int s k t) F.entry_int_rmul (F.args_int_rmul_2 _ _) (int_rmul_tuple k t a its.toArray n dd sl) ⟨ho, rfl, ⟨_, ho, rfl⟩, ?_⟩)
  refine call_meets F.slot_tuple_mul ⟨_, ho, rfl⟩ F.entry_tuple_mul (F.args_tuple_mul_2 _ _) (tuple_mulW a its.toArray n dd sl k t b0 b1 b2 (by omega) b4 (by rw [size_rep, List.size_toArray]; exact fl its (by omega))) ⟨ho, ?_⟩
  rw [size_rep]
  exact q.at' (tk := s.toks) I (r.rep k.toNat) (fl xs hz)
end
end
section
/-! ## results, values, the store -/
/-- the tuples that the module's top has written, with those within -/
class Wtp where
  W : List PyData
  F : Bool
inductive Wv where
  | d (x : PyData)
  | r (i : Nat)
  /-- the exception that is handled -/
  | x (a : Addr) (c : Str) (d : Option (Addr × List (Str × PyData)))
inductive Ob where
  | lst (xs : List PyData)
  | dct (kvs : List (PyData × PyData))
  /-- a dict whose keys are tuples -/
  | dtt (kvs : List (PyData × PyData))
  /-- a dict that is pinned: nobody writes it any more -/
  | lkd (es : List (PyData × PyData))
  /-- a list that is pinned -/
  | lkl (xs : List PyData)
  /-- an instance of the class at C, its attributes -/
  | ins (C : Addr) (es : List (Str × PyData))
abbrev Sto := List Ob
abbrev En := List (Option Wv)
structure Xc where
  name : Str
  fs : List (Str × PyData)
inductive Rs (α : Type) where
  | ok (a : α) (st : Sto)
  | ex (e : Xc) (st : Sto)
  | no
namespace Rs
variable {α β : Type}
def bind (x : Rs α) (f : α → Sto → Rs β) : Rs β := match x with
  | .ok a st => f a st
  | .ex e st => .ex e st
  | .no => .no
/-- what holds at the end -/
def post (x : Rs α) (Q : α → Sto → Prop) (W : Xc → Sto → Prop) : Prop := match x with
  | .ok a st => Q a st
  | .ex e st => W e st
  | .no => False
@[simp] theorem bind_ok (a : α) (st : Sto) (f : α → Sto → Rs β) : (Rs.ok a st).bind f = f a st := rfl
@[simp] theorem bind_ex (e : Xc) (st : Sto) (f : α → Sto → Rs β) : (Rs.ex e st : Rs α).bind f = .ex e st := rfl
@[simp] theorem bind_no (f : α → Sto → Rs β) : (Rs.no : Rs α).bind f = .no := rfl
@[simp] theorem post_ok (a : α) (st : Sto) (Q : α → Sto → Prop) (W : Xc → Sto → Prop) : (Rs.ok a st).post Q W = Q a st := rfl
@[simp] theorem post_ex (e : Xc) (st : Sto) (Q : α → Sto → Prop) (W : Xc → Sto → Prop) : (Rs.ex e st : Rs α).post Q W = W e st := rfl
@[simp] theorem post_no (Q : α → Sto → Prop) (W : Xc → Sto → Prop) : (Rs.no : Rs α).post Q W = False := rfl
theorem post_bind (x : Rs α) (f : α → Sto → Rs β) (Q : β → Sto → Prop) (W : Xc → Sto → Prop) : (x.bind f).post Q W = x.post (fun a st => (f a st).post Q W) W := by cases x <;> rfl
theorem post_mono {x : Rs α} {Q Q' : α → Sto → Prop} {W W' : Xc → Sto → Prop} (h : x.post Q W) (hQ : ∀ a st, Q a st → Q' a st) (hW : ∀ e st, W e st → W' e st) : x.post Q' W' := by
  cases x with
  | ok a st => exact hQ a st h
  | ex e st => exact hW e st h
  | no => exact h
end Rs
/-- a value as data, as it is now -/
def look (st : Sto) : Wv → Option PyData
  | .d x => some x
  | .r i => match st[i]? with
    | some (.lst xs) => some (.list xs)
    | some (.dct kvs) => some (.dict kvs)
    | some (.dtt kvs) => some (.dict kvs)
    | some (.lkd kvs) => some (.dict kvs)
    | some (.lkl xs) => some (.list xs)
    | some (.ins _ _) => none
    | none => none
  | .x _ _ _ => none
@[simp] theorem look_d (st : Sto) (x : PyData) : look st (.d x) = some x := rfl
/-! ## data as it stands in the heap -/
abbrev Frg := PySem.W.Frag
def WrL (K : Frg) (a : Addr) (xs : List V) : Prop := ∃ (vs : Array Value) (k : Nat), K.lookup a = some { cls := .type "list", data := .seq vs k } ∧ vs.size ≤ sizeLine ∧ Vals xs vs.toList
def LsAt (K : Frg) (H : Hp) (Z : Addr → Prop) (a : Addr) (xs : List V) : Prop := (H a = some (.lst xs) ∧ Z a) ∨ (∃ o, H a = some (.frz o (.lst xs))) ∨ WrL K a xs
theorem LsAt.sq {K : Frg} {H : Hp} {Z : Addr → Prop} {a : Addr} {xs : List V} (h : LsAt K H Z a xs) : SqL K H a xs := by
  rcases h with ⟨h, _⟩ | ⟨o, h⟩ | h
  · exact .inl (.inl h)
  · exact .inl (.inr ⟨o, h⟩)
  · obtain ⟨vs, k, h1, h2, h3⟩ := h
    exact .inr ⟨_, vs, k, h1, rfl, rfl, rfl, h2, h3⟩
/-- a list, whoever holds it -/
abbrev LsX (K : Frg) (H : Hp) (a : Addr) (xs : List V) : Prop := LsAt K H (fun _ => True) a xs
theorem LsAt.x {K : Frg} {H : Hp} {Z : Addr → Prop} {a : Addr} {xs : List V} (h : LsAt K H Z a xs) : LsX K H a xs := by
  rcases h with ⟨h, _⟩ | h | h
  · exact .inl ⟨h, trivial⟩
  · exact .inr (.inl h)
  · exact .inr (.inr h)
theorem Inv.lsx {X : Cx} {pins : List (Addr × Obj)} {σ : L2.St} {H : Hp} {s : Shared} {Z : Addr → Prop} {a : Addr} {xs : List V} (I : Inv X pins σ H s) (h : LsAt X.K H Z a xs) :
    ∃ (its : List Value) (n : Nat), Vals xs its ∧ s.heap.get? a = some { cls := .type "list", data := .seq its.toArray n } ∧ xs.length ≤ sizeLine ∧ its.length = xs.length := by
  rcases h with ⟨h, _⟩ | ⟨o, h⟩ | ⟨vs, k, h1, h2, h3⟩
  · obtain ⟨z, its, n, r, e⟩ := I.hok a _ h
    exact ⟨its, n, r, e, z, r.length.symm⟩
  · obtain ⟨_, z, its, n, r, e⟩ := I.hok a _ h
    exact ⟨its, n, r, e, z, r.length.symm⟩
  · have e := h3.length
    exact ⟨vs.toList, k, h3, I.kIn a _ h1, by simp only [Array.length_toList] at e; omega, e.symm⟩
def keyD : PyData → Option Key
  | .int i => some (.inl i)
  | .str x => some (.inr x)
  | _ => none
def keysD : List PyData → Option (List Key)
  | [] => some []
  | d :: r => match keyD d, keysD r with
    | some k, some ks => some (k :: ks)
    | _, _ => none
def tkD : PyData → Option (List Key)
  | .tuple xs => keysD xs
  | _ => none
variable [Wtp]
/-- an object of the program's own: a tuple without a dict -/
def PlT (K : Frg) (a : Addr) : Prop := ∃ o : Obj, K.lookup a = some o ∧ o.cls = .type "tuple" ∧ o.dict = none
/-- a tuple of its own, or one that the top has written -/
def TpAt (K : Frg) (H : Hp) (a : Addr) (xs : List V) (ds : List PyData) : Prop := (Wtp.F = false ∧ H a = some (.tup xs)) ∨ (SqT K H a xs ∧ PyData.tuple ds ∈ Wtp.W ∧ PlT K a) ∨ (Wtp.F = true ∧ ∃ o : Obj, H a = some (.frz o (.tup xs)) ∧ o.dict = none)
/-- a tuple that the top has not written, and that is tracked -/
def NoW (c : PyData) : Prop := c ∉ Wtp.W ∧ Wtp.F = false
theorem TpAt.sq {K : Frg} {H : Hp} {a : Addr} {xs : List V} {ds : List PyData} (h : TpAt K H a xs ds) : SqT K H a xs := by
  rcases h with h | h | ⟨_, o, h, _⟩
  · exact .inl (.inl h.2)
  · exact h.1
  · exact .inl (.inr ⟨o, h⟩)
mutual
inductive Rp (K : Frg) (H : Hp) (Z : Addr → Prop) : V → PyData → Prop
  | non : Rp K H Z .non .none
  | bl (b : Bool) : Rp K H Z (.bl b) (.bool b)
  | int (i : Int) : Rp K H Z (.int i) (.int i)
  | str (x : Str) : Rp K H Z (.str x) (.str x)
  | lst {a : Addr} {xs : List V} {ds : List PyData} : LsAt K H Z a xs → RpA K H Z xs ds → Rp K H Z (.ref a) (.list ds)
  | tup {a : Addr} {xs : List V} {ds : List PyData} : TpAt K H a xs ds → RpA K H Z xs ds → Rp K H Z (.ref a) (.tuple ds)
  | dic {a : Addr} {o : Obj} {kvs : List (Key × V)} {es : List (PyData × PyData)} : H a = some (.frz o (.dK kvs)) → RpK K H Z kvs es → Rp K H Z (.ref a) (.dict es)
  | dit {a : Addr} {o : Obj} {kvs : List (List Key × V)} {es : List (PyData × PyData)} : H a = some (.frz o (.dT kvs)) → RpT K H Z kvs es → Rp K H Z (.ref a) (.dict es)
inductive RpA (K : Frg) (H : Hp) (Z : Addr → Prop) : List V → List PyData → Prop
  | nil : RpA K H Z [] []
  | cons {v : V} {vs : List V} {d : PyData} {ds : List PyData} : Rp K H Z v d → RpA K H Z vs ds → RpA K H Z (v :: vs) (d :: ds)
inductive RpK (K : Frg) (H : Hp) (Z : Addr → Prop) : List (Key × V) → List (PyData × PyData) → Prop
  | nil : RpK K H Z [] []
  | cons {k : Key} {v : V} {kvs : List (Key × V)} {c d : PyData} {es : List (PyData × PyData)} : keyD c = some k → Rp K H Z v d → RpK K H Z kvs es → RpK K H Z ((k, v) :: kvs) ((c, d) :: es)
inductive RpT (K : Frg) (H : Hp) (Z : Addr → Prop) : List (List Key × V) → List (PyData × PyData) → Prop
  | nil : RpT K H Z [] []
  | cons {k : List Key} {v : V} {kvs : List (List Key × V)} {c d : PyData} {es : List (PyData × PyData)} : tkD c = some k → Rp K H Z v d → RpT K H Z kvs es → RpT K H Z ((k, v) :: kvs) ((c, d) :: es)
end
/-- no table of code objects -/
def NT (o : HO) : Prop := ∀ ps, o ≠ .tbl ps
theorem nt_lst {xs : List V} : NT (.lst xs) := fun _ z => nomatch z
theorem nt_dK {xs : List (Key × V)} : NT (.dK xs) := fun _ z => nomatch z
theorem nt_dT {xs : List (List Key × V)} : NT (.dT xs) := fun _ z => nomatch z
/-- something stands there, and no table -/
def Nn (H : Hp) (a : Addr) : Prop := ∃ o, H a = some o ∧ NT o
theorem Nn.ne {H : Hp} {a : Addr} (h : Nn H a) : H a ≠ none := by obtain ⟨o, e, _⟩ := h; rw [e]; exact fun z => nomatch z
theorem nn_no {H : Hp} {a : Addr} (h : H a = none) : ¬ Nn H a := fun q => q.ne h
/-- a list -/
def LsO (o : HO) : Prop := ∃ xs, o = .lst xs
theorem LsO.nt {o : HO} (h : LsO o) : NT o := by obtain ⟨xs, rfl⟩ := h; exact nt_lst
/-- what data lean on is kept -/
structure Kp (K : Frg) (H : Hp) (Z : Addr → Prop) (H' : Hp) (Z' : Addr → Prop) : Prop where
  tup : ∀ a xs, H a = some (.tup xs) → H' a = some (.tup xs)
  frz : ∀ a o u, H a = some (.frz o u) → H' a = some (.frz o u)
  rest : ∀ a o, LsO o → H a = some o → Z a → H' a = some o ∧ Z' a
section
variable {K : Frg} {H H' H'' : Hp} {Z Z' Z'' : Addr → Prop}
theorem Kp.refl : Kp K H Z H Z := ⟨fun _ _ h => h, fun _ _ _ h => h, fun _ _ _ h z => ⟨h, z⟩⟩
theorem Kp.trans (p : Kp K H Z H' Z') (q : Kp K H' Z' H'' Z'') : Kp K H Z H'' Z'' :=
  ⟨fun a xs h => q.tup a xs (p.tup a xs h), fun a o u h => q.frz a o u (p.frz a o u h), fun a o nt h z => let ⟨h1, z1⟩ := p.rest a o nt h z; q.rest a o nt h1 z1⟩
theorem Kp.sqt (p : Kp K H Z H' Z') {a : Addr} {xs : List V} (h : SqT K H a xs) : SqT K H' a xs := by
  rcases h with (h | ⟨o, h⟩) | h
  · exact .inl (.inl (p.tup _ _ h))
  · exact .inl (.inr ⟨o, p.frz _ _ _ h⟩)
  · exact .inr h
theorem Kp.tp (p : Kp K H Z H' Z') {a : Addr} {xs : List V} {ds : List PyData} (h : TpAt K H a xs ds) : TpAt K H' a xs ds := by
  rcases h with h | h | ⟨z, o, h, n⟩
  · exact .inl ⟨h.1, p.tup _ _ h.2⟩
  · exact .inr (.inl ⟨p.sqt h.1, h.2⟩)
  · exact .inr (.inr ⟨z, o, p.frz _ _ _ h, n⟩)
theorem Kp.ls (p : Kp K H Z H' Z') {a : Addr} {xs : List V} (h : LsAt K H Z a xs) : LsAt K H' Z' a xs := by
  rcases h with ⟨h, z⟩ | ⟨o, h⟩ | h
  · exact .inl (p.rest _ _ ⟨_, rfl⟩ h z)
  · exact .inr (.inl ⟨o, p.frz _ _ _ h⟩)
  · exact .inr (.inr h)
mutual
theorem Rp.kp (p : Kp K H Z H' Z') : ∀ (d : PyData) (v : V), Rp K H Z v d → Rp K H' Z' v d
  | .none, _, h => by cases h; exact .non
  | .bool b, _, h => by cases h; exact .bl b
  | .int i, _, h => by cases h; exact .int i
  | .str x, _, h => by cases h; exact .str x
  | .list ds, _, h => by cases h with | lst h1 h2 => exact .lst (p.ls h1) (RpA.kp p ds _ h2)
  | .tuple ds, _, h => by cases h with | tup h1 h2 => exact .tup (p.tp h1) (RpA.kp p ds _ h2)
  | .dict es, _, h => by
    cases h with
    | dic h1 h3 => exact .dic (p.frz _ _ _ h1) (RpK.kp p es _ h3)
    | dit h1 h3 => exact .dit (p.frz _ _ _ h1) (RpT.kp p es _ h3)
theorem RpA.kp (p : Kp K H Z H' Z') : ∀ (ds : List PyData) (vs : List V), RpA K H Z vs ds → RpA K H' Z' vs ds
  | [], _, h => by cases h; exact .nil
  | d :: ds, _, h => by cases h with | cons h1 h2 => exact .cons (Rp.kp p d _ h1) (RpA.kp p ds _ h2)
theorem RpK.kp (p : Kp K H Z H' Z') : ∀ (es : List (PyData × PyData)) (kvs : List (Key × V)), RpK K H Z kvs es → RpK K H' Z' kvs es
  | [], _, h => by cases h; exact .nil
  | (c, d) :: es, _, h => by cases h with | cons h0 h1 h2 => exact .cons h0 (Rp.kp p d _ h1) (RpK.kp p es _ h2)
theorem RpT.kp (p : Kp K H Z H' Z') : ∀ (es : List (PyData × PyData)) (kvs : List (List Key × V)), RpT K H Z kvs es → RpT K H' Z' kvs es
  | [], _, h => by cases h; exact .nil
  | (c, d) :: es, _, h => by cases h with | cons h0 h1 h2 => exact .cons h0 (Rp.kp p d _ h1) (RpT.kp p es _ h2)
end
theorem Rp.mv {v : V} {d : PyData} (h : Rp K H Z v d) (p : Kp K H Z H' Z') : Rp K H' Z' v d := Rp.kp p d v h
theorem RpA.mv {vs : List V} {ds : List PyData} (h : RpA K H Z vs ds) (p : Kp K H Z H' Z') : RpA K H' Z' vs ds := RpA.kp p ds vs h
theorem RpA.len : ∀ {vs : List V} {ds : List PyData}, RpA K H Z vs ds → vs.length = ds.length
  | [], [], _ => rfl
  | _ :: vs, _ :: ds, h => by cases h with | cons _ h => simp [RpA.len h]
  | [], _ :: _, h => by cases h
  | _ :: _, [], h => by cases h
theorem RpA.get : ∀ {vs : List V} {ds : List PyData} {i : Nat} {d : PyData}, RpA K H Z vs ds → ds[i]? = some d → ∃ v, vs[i]? = some v ∧ Rp K H Z v d
  | [], [], i, d, _, e => by simp at e
  | v :: vs, c :: ds, 0, d, h, e => by
    cases h with
    | cons h1 h2 =>
      simp at e
      subst e
      exact ⟨v, rfl, h1⟩
  | v :: vs, c :: ds, i + 1, d, h, e => by
    cases h with
    | cons h1 h2 =>
      obtain ⟨u, hu, r⟩ := RpA.get (i := i) h2 (by simpa using e)
      exact ⟨u, by simpa using hu, r⟩
  | [], _ :: _, _, _, h, _ => by cases h
  | _ :: _, [], _, _, h, _ => by cases h
theorem RpA.app : ∀ {vs ws : List V} {ds es : List PyData}, RpA K H Z vs ds → RpA K H Z ws es → RpA K H Z (vs ++ ws) (ds ++ es)
  | [], _, [], _, _, h => h
  | _ :: _, _, _ :: _, _, .cons h1 h2, h => .cons h1 (RpA.app h2 h)
theorem RpA.drop : ∀ {vs : List V} {ds : List PyData} (n : Nat), RpA K H Z vs ds → RpA K H Z (vs.drop n) (ds.drop n)
  | _, _, 0, h => h
  | [], [], _ + 1, h => h
  | _ :: _, _ :: _, n + 1, .cons _ h => RpA.drop n h
theorem RpA.take : ∀ {vs : List V} {ds : List PyData} (n : Nat), RpA K H Z vs ds → RpA K H Z (vs.take n) (ds.take n)
  | _, _, 0, _ => .nil
  | [], [], _ + 1, _ => .nil
  | _ :: _, _ :: _, n + 1, .cons h1 h => .cons h1 (RpA.take n h)
theorem RpA.set {v : V} {d : PyData} (r : Rp K H Z v d) : ∀ {vs : List V} {ds : List PyData} (n : Nat), RpA K H Z vs ds → RpA K H Z (vs.set n v) (ds.set n d)
  | [], [], _, h => h
  | _ :: _, _ :: _, 0, .cons _ h => .cons r h
  | _ :: _, _ :: _, n + 1, .cons h1 h => .cons h1 (RpA.set r n h)
end
/-! ## the real heap reads as the data -/
section
variable {X : Cx} {pins : List (Addr × Obj)} {σ : L2.St} {H : Hp} {s : Shared} {Z : Addr → Prop}
/-- the dict of the modules stands in its place -/
def SysM (h : Heap) : Prop := ∃ (o : Obj) (es : Array DictEntry) (ep : Nat), h.get? sysModules = some o ∧ o.data = .dict es ep
/-- no list, no tuple stands there -/
theorem SysM.seq {h : Heap} {a : Addr} {o : Obj} {vs : Array Value} {n : Nat} (S : SysM h) (e : h.get? a = some o) (d : o.data = .seq vs n) : sysModules ≠ a := fun z => by
  obtain ⟨o', es, ep, e', d'⟩ := S
  rw [z, e] at e'
  cases e'
  rw [d] at d'
  cases d'
theorem SysM.up {h h' : Heap} (S : SysM h) (k : ∀ b o, h.get? b = some o → h'.get? b = some o) : SysM h' := by
  obtain ⟨o, es, ep, e, d⟩ := S
  exact ⟨o, es, ep, k _ _ e, d⟩
theorem off_cons {a : Addr} {as : List Addr} (h : sysModules ≠ a) (h' : sysModules ∉ as) : sysModules ∉ a :: as := fun z => by
  rcases List.mem_cons.mp z with z | z
  · exact h z
  · exact h' z
theorem off_app {as bs : List Addr} (h : sysModules ∉ as) (h' : sysModules ∉ bs) : sysModules ∉ as ++ bs := fun z => by
  rcases List.mem_append.mp z with z | z
  · exact h z
  · exact h' z
theorem off_nil : sysModules ∉ ([] : List Addr) := List.not_mem_nil
theorem keyD_rel {h : Heap} {d : PyData} {k : Key} {u : Value} (e : keyD d = some k) (r : RelV (kV k) u) : Reads h u d [] := by
  cases d with
  | int i => cases e; obtain ⟨t, rfl⟩ := r; exact .int i t
  | str x => cases e; obtain ⟨t, rfl⟩ := r; exact .str x t
  | _ => cases e
theorem keysD_reads {h : Heap} : ∀ {ds : List PyData} {ks : List Key} {us : List Value}, keysD ds = some ks → Vals (ks.map kV) us → ReadsAll h us ds []
  | [], ks, us, e, r => by
    cases e
    cases r
    exact .nil
  | d :: ds, ks, us, e, r => by
    unfold keysD at e
    split at e
    · rename_i k ks' e1 e2
      cases e
      cases r with
      | cons r1 r2 => exact .cons (as := []) (bs := []) (keyD_rel (h := h) e1 r1) (keysD_reads (h := h) e2 r2)
    · cases e
theorem tkD_reads (I : Inv X pins σ H s) {c : PyData} {k : List Key} {b : Addr} (e : tkD c = some k) (hb : H b = some (.tup (k.map kV))) : ∃ as, Reads s.heap (.ref b) c as ∧ (SysM s.heap → sysModules ∉ as) := by
  cases c with
  | tuple ds =>
    obtain ⟨its, rv, ⟨o, ho, hc, n, hd⟩, _⟩ := I.tuple (.inl (.inl hb))
    exact ⟨_, .tuple ho hc hd (keysD_reads (h := s.heap) (show keysD ds = some k from e) rv), fun _ => off_nil⟩
  | _ => cases e
theorem keyD_reads {h : Heap} {c : PyData} {k : Key} {u : Value} (e : keyD c = some k) (hk : keyIs k u = true) : Reads h u c [] := by
  cases c with
  | int i =>
    cases e
    rcases keyIs_shape hk with ⟨j, t, e1, rfl⟩ | ⟨x, t, e1, rfl⟩
    · cases e1; exact .int _ _
    · cases e1
  | str x =>
    cases e
    rcases keyIs_shape hk with ⟨j, t, e1, rfl⟩ | ⟨x, t, e1, rfl⟩
    · cases e1
    · cases e1; exact .str _ _
  | _ => cases e
mutual
/-- what is read lies beside the modules' dict -/
theorem Rp.readsM (I : Inv X pins σ H s) : ∀ (d : PyData) (v : V) (u : Value), Rp X.K H Z v d → RelV v u → ∃ as, Reads s.heap u d as ∧ (SysM s.heap → sysModules ∉ as)
  | .none, _, _, h, r => by cases h; cases r; exact ⟨_, .none, fun _ => off_nil⟩
  | .bool b, _, _, h, r => by cases h; cases r; exact ⟨_, .bool b, fun _ => off_nil⟩
  | .int i, _, _, h, r => by cases h; obtain ⟨t, rfl⟩ := r; exact ⟨_, .int i t, fun _ => off_nil⟩
  | .str x, _, _, h, r => by cases h; obtain ⟨t, rfl⟩ := r; exact ⟨_, .str x t, fun _ => off_nil⟩
  | .list ds, _, _, h, r => by
    cases h with
    | lst hs ha =>
      cases r
      obtain ⟨its, rv, ⟨o, n, ho, hc, _, hd⟩, _⟩ := I.list hs.sq
      obtain ⟨as, hr, g⟩ := RpA.readsM I ds _ its ha rv
      exact ⟨_, .list ho hc hd hr, fun S => off_cons (S.seq ho hd) (g S)⟩
  | .tuple ds, _, _, h, r => by
    cases h with
    | tup hs ha =>
      cases r
      obtain ⟨its, rv, ⟨o, ho, hc, n, hd⟩, _⟩ := I.tuple hs.sq
      obtain ⟨as, hr, g⟩ := RpA.readsM I ds _ its ha rv
      exact ⟨_, .tuple ho hc hd hr, g⟩
  | .dict es, _, _, h, r => by
    cases h with
    | dic h1 h3 =>
      cases r
      obtain ⟨_, _, hm, vs, kv, o, ents, ep, ho, hc, hd, _, he, _⟩ := (show ObjOk X.prog X.w H s.heap _ (.frz _ (.dK _)) from I.hok _ _ h1)
      obtain ⟨as, bs, r1, r2, g1, g2⟩ := RpK.readsM I es _ vs ents.toList h3 kv he
      exact ⟨_, .dict ho hc.1 hd r1 r2, fun S => off_app (off_cons (fun z => by subst z; cases hm) (g1 S)) (g2 S)⟩
    | dit h1 h3 =>
      cases r
      obtain ⟨_, _, hm, xs, kt, o, ents, ep, ho, hc, hd, he, _⟩ := (show ObjOk X.prog X.w H s.heap _ (.frz _ (.dT _)) from I.hok _ _ h1)
      obtain ⟨as, bs, r1, r2, g1, g2⟩ := RpT.readsM I es _ xs h3 kt
      rw [← he] at r1 r2
      exact ⟨_, .dict ho hc.1 hd r1 r2, fun S => off_app (off_cons (fun z => by subst z; cases hm) (g1 S)) (g2 S)⟩
theorem RpA.readsM (I : Inv X pins σ H s) : ∀ (ds : List PyData) (vs : List V) (us : List Value), RpA X.K H Z vs ds → Vals vs us → ∃ as, ReadsAll s.heap us ds as ∧ (SysM s.heap → sysModules ∉ as)
  | [], _, _, h, r => by cases h; cases r; exact ⟨_, .nil, fun _ => off_nil⟩
  | d :: ds, _, _, h, r => by
    cases h with
    | cons h1 h2 =>
      cases r with
      | cons r1 r2 =>
        obtain ⟨as, q1, g1⟩ := Rp.readsM I d _ _ h1 r1
        obtain ⟨bs, q2, g2⟩ := RpA.readsM I ds _ _ h2 r2
        exact ⟨_, .cons q1 q2, fun S => off_app (g1 S) (g2 S)⟩
theorem RpK.readsM (I : Inv X pins σ H s) : ∀ (es : List (PyData × PyData)) (kvs : List (Key × V)) (vs : List (Key × Value)) (ents : List DictEntry), RpK X.K H Z kvs es → KV kvs vs →
    Pairs (mixKind X.prog X.w) ents vs → ∃ as bs, ReadsAll s.heap (ents.map (·.key)) (es.map (·.1)) as ∧ ReadsAll s.heap (ents.map (·.val)) (es.map (·.2)) bs ∧ (SysM s.heap → sysModules ∉ as) ∧ (SysM s.heap → sysModules ∉ bs)
  | [], _, _, _, h, r, p => by cases h; cases r; cases p; exact ⟨_, _, .nil, .nil, fun _ => off_nil, fun _ => off_nil⟩
  | (c, d) :: es, _, _, _, h, r, p => by
    cases h with
    | cons h0 h1 h2 =>
      cases r with
      | cons r1 r2 =>
        cases p with
        | cons p1 p2 p3 =>
          obtain ⟨as, bs, q1, q2, g1, g2⟩ := RpK.readsM I es _ _ _ h2 r2 p3
          obtain ⟨cs, q3, g3⟩ := Rp.readsM I d _ _ h1 r1.2
          have q4 := keyD_reads (h := s.heap) (c := c) (h0.trans (congrArg some r1.1)) p1
          exact ⟨_, _, .cons q4 q1, by rw [List.map_cons, List.map_cons, p2]; exact .cons q3 q2, fun S => off_app off_nil (g1 S), fun S => off_app (g3 S) (g2 S)⟩
theorem RpT.readsM (I : Inv X pins σ H s) : ∀ (es : List (PyData × PyData)) (kvs : List (List Key × V)) (xs : List (List Key × Addr × Value)), RpT X.K H Z kvs es → KT H kvs xs →
    ∃ as bs, ReadsAll s.heap ((xs.map (entryOfKey (tupleKind (mixKind X.prog X.w)))).map (·.key)) (es.map (·.1)) as ∧ ReadsAll s.heap ((xs.map (entryOfKey (tupleKind (mixKind X.prog X.w)))).map (·.val)) (es.map (·.2)) bs ∧ (SysM s.heap → sysModules ∉ as) ∧ (SysM s.heap → sysModules ∉ bs)
  | [], _, _, h, r => by cases h; cases r; exact ⟨_, _, .nil, .nil, fun _ => off_nil, fun _ => off_nil⟩
  | (c, d) :: es, _, _, h, r => by
    cases h with
    | cons h0 h1 h2 =>
      cases r with
      | cons r1 r2 =>
        obtain ⟨as, bs, q1, q2, g1, g2⟩ := RpT.readsM I es _ _ h2 r2
        obtain ⟨cs, q3, g3⟩ := Rp.readsM I d _ _ h1 r1.2.2
        obtain ⟨ds, q4, g4⟩ := tkD_reads I h0 r1.2.1
        exact ⟨_, _, .cons q4 q1, .cons q3 q2, fun S => off_app (g4 S) (g1 S), fun S => off_app (g3 S) (g2 S)⟩
end
theorem Rp.reads (I : Inv X pins σ H s) (d : PyData) (v : V) (u : Value) (h : Rp X.K H Z v d) (r : RelV v u) : ∃ as, Reads s.heap u d as := let ⟨as, q, _⟩ := Rp.readsM I d v u h r; ⟨as, q⟩
theorem RpA.reads (I : Inv X pins σ H s) (ds : List PyData) (vs : List V) (us : List Value) (h : RpA X.K H Z vs ds) (r : Vals vs us) : ∃ as, ReadsAll s.heap us ds as := let ⟨as, q, _⟩ := RpA.readsM I ds vs us h r; ⟨as, q⟩
end
end
section
variable [Wtp]
/-! ## the store in the heap -/
structure Mp where
  ix : Nat → Addr
  F : Addr → Prop
/-- none of the store's objects, and none that is being made -/
def Off (m : Mp) (n : Nat) (a : Addr) : Prop := (∀ i, i < n → m.ix i ≠ a) ∧ ¬ m.F a
/-- an exception's own dict -/
def XdAt (K : Frg) (H : Hp) (m : Mp) (n : Nat) (dd : Addr) (es : List (Str × PyData)) : Prop := ∃ fs : List (Str × V), H dd = some (.xd fs) ∧ fs.map (·.1) = es.map (·.1) ∧ RpA K H (Off m n) (fs.map (·.2)) (es.map (·.2)) ∧ Off m n dd
def RW (K : Frg) (H : Hp) (m : Mp) (n : Nat) (v : V) : Wv → Prop
  | .d x => Rp K H (Off m n) v x
  | .r i => i < n ∧ v = .ref (m.ix i)
  | .x a _ d => v = .ref a ∧ ∀ p, d = some p → XdAt K H m n p.1 p.2
inductive RWs (K : Frg) (H : Hp) (m : Mp) (n : Nat) : List V → List Wv → Prop
  | nil : RWs K H m n [] []
  | cons {v : V} {vs : List V} {w : Wv} {ws : List Wv} : RW K H m n v w → RWs K H m n vs ws → RWs K H m n (v :: vs) (w :: ws)
/-- a pinned list -/
def FzL (K : Frg) (H : Hp) (Z : Addr → Prop) (a : Addr) (xs : List PyData) : Prop := ∃ o vs, H a = some (.frz o (.lst vs)) ∧ RpA K H Z vs xs
theorem FzL.mv {K : Frg} {H H' : Hp} {Z Z' : Addr → Prop} {a : Addr} {xs : List PyData} (h : FzL K H Z a xs) (p : Kp K H Z H' Z') : FzL K H' Z' a xs := let ⟨o, vs, h1, h2⟩ := h; ⟨o, vs, p.frz _ _ _ h1, h2.mv p⟩
theorem FzL.rp {K : Frg} {H : Hp} {Z : Addr → Prop} {a : Addr} {xs : List PyData} (h : FzL K H Z a xs) : Rp K H Z (.ref a) (.list xs) := let ⟨_, _, h1, h2⟩ := h; .lst (.inr (.inl ⟨_, h1⟩)) h2
/-- an instance -/
def InAt (K : Frg) (H : Hp) (Z : Addr → Prop) (a C : Addr) (es : List (Str × PyData)) : Prop := ∃ dx fs, H a = some (.ins C dx fs) ∧ fs.map (·.1) = es.map (·.1) ∧ RpA K H Z (fs.map (·.2)) (es.map (·.2))
theorem InAt.mv {K : Frg} {H H' : Hp} {Z Z' : Addr → Prop} {a C : Addr} {es : List (Str × PyData)} (h : InAt K H Z a C es) (p : Kp K H Z H' Z') (e : ∀ dx fs, H a = some (.ins C dx fs) → H' a = some (.ins C dx fs)) : InAt K H' Z' a C es := let ⟨dx, fs, h1, h2, h3⟩ := h; ⟨dx, fs, e _ _ h1, h2, h3.mv p⟩
def ObAt (K : Frg) (H : Hp) (m : Mp) (n : Nat) (a : Addr) : Ob → Prop
  | .lst xs => ∃ vs, H a = some (.lst vs) ∧ RpA K H (Off m n) vs xs
  | .dct kvs => ∃ ks, H a = some (.dK ks) ∧ RpK K H (Off m n) ks kvs
  | .dtt kvs => ∃ ks, H a = some (.dT ks) ∧ RpT K H (Off m n) ks kvs
  | .lkd kvs => Rp K H (Off m n) (.ref a) (.dict kvs)
  | .lkl xs => FzL K H (Off m n) a xs
  | .ins C es => InAt K H (Off m n) a C es
/-- the tables of code objects that the law's own defs make lambdas with -/
class Tbl where
  T : List (Addr × Str)
structure Sim [Tbl] (K : Frg) (H : Hp) (m : Mp) (st : Sto) : Prop where
  ob : ∀ (i : Nat) o, st[i]? = some o → ObAt K H m st.length (m.ix i) o
  inj : ∀ i j, i < st.length → j < st.length → m.ix i = m.ix j → i = j
  ff : ∀ a, m.F a → Nn H a
  fi : ∀ i, i < st.length → ¬ m.F (m.ix i)
  tb : LamX.Tabs Tbl.T H
variable [Tbl]
structure Fol (m : Mp) (n : Nat) (H : Hp) (m' : Mp) (n' : Nat) (H' : Hp) : Prop where
  tup : ∀ a xs, H a = some (.tup xs) → H' a = some (.tup xs)
  frz : ∀ a o u, H a = some (.frz o u) → H' a = some (.frz o u)
  rest : ∀ a o, NT o → H a = some o → (∀ i, i < n → m.ix i ≠ a) → H' a = some o
  old : ∀ i, i < n → m'.ix i = m.ix i
  new : ∀ i, n ≤ i → i < n' → ¬ Nn H (m'.ix i)
  le : n ≤ n'
  dom : ∀ a, Nn H a → Nn H' a
  eF : ∀ a, Nn H a → (m'.F a ↔ m.F a)
structure EnvR (K : Frg) (H : Hp) (m : Mp) (n : Nat) (env : En) (σ : L2.St) : Prop where
  len : env.length = σ.length
  at' : ∀ (i : Nat) w, env[i]? = some (some w) → ∃ v, σ[i]? = some (some v) ∧ RW K H m n v w
section
variable {K : Frg} {H H' H'' : Hp} {m m' m'' : Mp} {n n' n'' : Nat}
theorem ObAt.there {a : Addr} {o : Ob} (h : ObAt K H m n a o) : Nn H a := by
  cases o with
  | lst xs => obtain ⟨vs, e, _⟩ := h; exact ⟨_, e, nt_lst⟩
  | dct kvs => obtain ⟨vs, e, _⟩ := h; exact ⟨_, e, nt_dK⟩
  | dtt kvs => obtain ⟨vs, e, _⟩ := h; exact ⟨_, e, nt_dT⟩
  | lkd kvs =>
    cases (show Rp K H (Off m n) (.ref a) (.dict kvs) from h) with
    | dic h1 _ => exact ⟨_, h1, fun _ z => nomatch z⟩
    | dit h1 _ => exact ⟨_, h1, fun _ z => nomatch z⟩
  | lkl xs => obtain ⟨o, vs, h1, _⟩ := h; exact ⟨_, h1, fun _ z => nomatch z⟩
  | ins C es => obtain ⟨dx, fs, h1, _⟩ := h; exact ⟨_, h1, fun _ z => nomatch z⟩
theorem Sim.there {st : Sto} (S : Sim K H m st) {i : Nat} (hi : i < st.length) : Nn H (m.ix i) := (S.ob i st[i] (List.getElem?_eq_getElem hi)).there
theorem Sim.fresh {st : Sto} (S : Sim K H m st) {a : Addr} (h : H a = none) : Off m st.length a := ⟨fun i hi e => nn_no h (e ▸ S.there hi), fun z => nn_no h (S.ff a z)⟩
theorem Fol.refl : Fol m n H m n H := ⟨fun _ _ h => h, fun _ _ _ h => h, fun _ _ _ h _ => h, fun _ _ => rfl, fun i a b => absurd b (by omega), Nat.le_refl _, fun _ h => h, fun _ _ => Iff.rfl⟩
theorem Fol.off1 (f : Fol m n H m' n' H') {a : Addr} (z : ∀ i, i < n → m.ix i ≠ a) (h : Nn H a) : ∀ i, i < n' → m'.ix i ≠ a := fun i hi e => by
  by_cases q : i < n
  · exact z i q ((f.old i q).symm.trans e)
  · exact f.new i (by omega) hi (by rw [e]; exact h)
theorem Fol.off (f : Fol m n H m' n' H') {a : Addr} (z : Off m n a) (h : Nn H a) : Off m' n' a := ⟨f.off1 z.1 h, fun q => z.2 ((f.eF a h).mp q)⟩
theorem Fol.kp (f : Fol m n H m' n' H') : Kp K H (Off m n) H' (Off m' n') :=
  ⟨f.tup, f.frz, fun a o nt h z => ⟨f.rest a o nt.nt h z.1, f.off z ⟨o, h, nt.nt⟩⟩⟩
theorem Fol.trans (f : Fol m n H m' n' H') (g : Fol m' n' H' m'' n'' H'') : Fol m n H m'' n'' H'' where
  tup a xs h := g.tup a xs (f.tup a xs h)
  frz a o u h := g.frz a o u (f.frz a o u h)
  rest a o nt h z := g.rest a o nt (f.rest a o nt h z) (f.off1 z ⟨o, h, nt⟩)
  old i hi := (g.old i (Nat.lt_of_lt_of_le hi f.le)).trans (f.old i hi)
  new i h1 h2 := by
    by_cases q : i < n'
    · rw [g.old i q]; exact f.new i h1 q
    · exact fun z => g.new i (by omega) h2 (f.dom _ z)
  le := Nat.le_trans f.le g.le
  dom a h := g.dom a (f.dom a h)
  eF a h := (g.eF a (f.dom a h)).trans (f.eF a h)
theorem domOf (h : ∀ a o, H a = some o → H' a = some o) : ∀ a, Nn H a → Nn H' a := fun a ⟨o, e, nt⟩ => ⟨o, h _ _ e, nt⟩
theorem Fol.same (h : ∀ a o, H a = some o → H' a = some o) : Fol m n H m n H' :=
  ⟨fun _ _ q => h _ _ q, fun _ _ _ q => h _ _ q, fun _ _ _ q _ => h _ _ q, fun _ _ => rfl, fun i a b => absurd b (by omega), Nat.le_refl _, domOf h, fun _ _ => Iff.rfl⟩
theorem XdAt.mv {dd : Addr} {es : List (Str × PyData)} (h : XdAt K H m n dd es) (f : Fol m n H m' n' H') : XdAt K H' m' n' dd es := by
  obtain ⟨fs, h1, h2, h3, h4⟩ := h
  have nt : NT (.xd fs) := fun _ z => nomatch z
  exact ⟨fs, f.rest dd _ nt h1 h4.1, h2, h3.mv f.kp, f.off h4 ⟨_, h1, nt⟩⟩
theorem RW.mv {v : V} {w : Wv} (h : RW K H m n v w) (f : Fol m n H m' n' H') : RW K H' m' n' v w := by
  cases w with
  | d x => exact Rp.mv h f.kp
  | r i => exact ⟨Nat.lt_of_lt_of_le h.1 f.le, by rw [f.old i h.1]; exact h.2⟩
  | x a c d => exact ⟨h.1, fun p e => (h.2 p e).mv f⟩
theorem RWs.mv : ∀ {vs : List V} {ws : List Wv}, RWs K H m n vs ws → Fol m n H m' n' H' → RWs K H' m' n' vs ws
  | _, _, .nil, _ => .nil
  | _, _, .cons h1 h2, f => .cons (h1.mv f) (RWs.mv h2 f)
theorem RWs.len : ∀ {vs : List V} {ws : List Wv}, RWs K H m n vs ws → vs.length = ws.length
  | _, _, .nil => rfl
  | _, _, .cons _ h => by simp [RWs.len h]
theorem EnvR.mv {env : En} {σ : L2.St} (h : EnvR K H m n env σ) (f : Fol m n H m' n' H') : EnvR K H' m' n' env σ :=
  ⟨h.len, fun i w e => let ⟨v, h1, h2⟩ := h.at' i w e; ⟨v, h1, h2.mv f⟩⟩
theorem EnvR.set {env : En} {σ : L2.St} {v : V} {w : Wv} (h : EnvR K H m n env σ) (i : Nat) (r : RW K H m n v w) : EnvR K H m n (env.set i (some w)) (σ.set i (some v)) := by
  refine ⟨by simp [h.len], fun j u e => ?_⟩
  by_cases q : i = j
  · subst q
    by_cases l : i < env.length
    · rw [List.getElem?_set_self l] at e
      cases e
      exact ⟨v, List.getElem?_set_self (by rw [← h.len]; exact l), r⟩
    · rw [List.getElem?_eq_none (by simpa using l)] at e; cases e
  · rw [List.getElem?_set_ne q] at e
    obtain ⟨x, h1, h2⟩ := h.at' j u e
    exact ⟨x, by rw [List.getElem?_set_ne q]; exact h1, h2⟩
theorem ObAt.mv {a : Addr} {o : Ob} (h : ObAt K H m n a o) (f : Fol m n H m' n' H') (e : ∀ u, H a = some u → H' a = some u) : ObAt K H' m' n' a o := by
  cases o with
  | lst xs => obtain ⟨vs, h1, h2⟩ := h; exact ⟨vs, e _ h1, h2.mv f.kp⟩
  | dct kvs => obtain ⟨vs, h1, h2⟩ := h; exact ⟨vs, e _ h1, RpK.kp f.kp _ _ h2⟩
  | dtt kvs => obtain ⟨vs, h1, h2⟩ := h; exact ⟨vs, e _ h1, RpT.kp f.kp _ _ h2⟩
  | lkd es => exact Rp.mv h f.kp
  | lkl xs => exact FzL.mv h f.kp
  | ins C es => exact InAt.mv h f.kp fun _ _ => e _
/-- the store in a heap that has grown -/
theorem Sim.grow {st : Sto} (S : Sim K H m st) (h : ∀ a o, H a = some o → H' a = some o) : Sim K H' m st :=
  ⟨fun i o e => (S.ob i o e).mv (.same h) fun u => h _ u, S.inj, fun a z => (Fol.same (m := m) (n := 0) h).dom a (S.ff a z), S.fi, S.tb.ext h⟩
theorem grow_upd {p : Addr} {o : HO} (h : H p = none) : ∀ a u, H a = some u → upd H p o a = some u := fun a u e => by
  rw [upd_ne (ne_of_none e h)]; exact e
end
/-! ## an exception in the heap -/
structure ExR (K : Frg) (mg : Str → Option Value) (H : Hp) (m : Mp) (n : Nat) (e : Xc) (c : Value) (d : Option Addr) : Prop where
  cls : ∃ C, mg e.name = some (.ref C) ∧ c = .ref C
  fld : (e.fs = [] ∧ d = none) ∨ ∃ dd, d = some dd ∧ XdAt K H m n dd e.fs
/-! ## judgements -/
/-- what a value's end asks -/
def okE (X : Cx) (m : Mp) (n : Nat) (H : Hp) (Q : VK) : Wv → Sto → Prop := fun w st' => ∀ v H' m', Fol m n H m' st'.length H' → Sim X.K H' m' st' → RW X.K H' m' st'.length v w → Q v H'
def okX (X : Cx) (W : WX) (m : Mp) (n : Nat) (H : Hp) (σ : L2.St) : Xc → Sto → Prop := fun e st' => ∀ c d H' m', Fol m n H m' st'.length H' → Sim X.K H' m' st' → ExR X.K X.mg H' m' st'.length e c d → W c d σ H'
def tE (X : Cx) (W : WX) (c : En → Sto → Rs Wv) : TE := fun σ H Q => ∃ m env st, Sim X.K H m st ∧ EnvR X.K H m st.length env σ ∧ (c env st).post (okE X m st.length H Q) (okX X W m st.length H σ)
def tT (X : Cx) (W : WX) (c : En → Sto → Rs Bool) : TT := fun σ H Q => ∃ m env st, Sim X.K H m st ∧ EnvR X.K H m st.length env σ ∧ (c env st).post (fun b st' => ∀ H' m', Fol m st.length H m' st'.length H' → Sim X.K H' m' st' → Q b H') (okX X W m st.length H σ)
def tA (X : Cx) (W : WX) (c : En → Sto → Rs (List Wv)) : TA := fun σ H Q => ∃ m env st, Sim X.K H m st ∧ EnvR X.K H m st.length env σ ∧
  (c env st).post (fun ws st' => ∀ vs H' m', Fol m st.length H m' st'.length H' → Sim X.K H' m' st' → RWs X.K H' m' st'.length vs ws → Q vs H') (okX X W m st.length H σ)
structure DE (X : Cx) (e : Expr) (c : En → Sto → Rs Wv) : Prop where
  pe : ∀ W, Takes X W → PE X e (tE X W c)
structure DT (X : Cx) (e : Expr) (c : En → Sto → Rs Bool) : Prop where
  pt : ∀ W, Takes X W → PT X e (tT X W c)
structure DA (X : Cx) (es : List Expr) (c : En → Sto → Rs (List Wv)) : Prop where
  pa : ∀ W, Takes X W → PA X es (tA X W c)
/-- what a def's or a block's text stands in -/
structure Tb where
  N : List Str
  us : List Nat
  ls : List Nat
  ps : List Nat
  gs : List Str
  cs : List Str
  fn : Bool
  gd : Bool
  /-- the name of the lambdas that it makes -/
  lq : Option Str
/-- the module -/
structure Md where
  P : Program
  w : World
  K : Frg
  mg : Str → Option Value
  base : Heap
/-- the code object of a def that makes lambdas, and its table -/
structure LamC (mg : Str → Option Value) (base : Heap) (q : Str) (cd : Value) : Prop where
  at' : ∃ c P : Addr, cd = .ref c ∧ (P, q) ∈ Tbl.T ∧ (∀ p ∈ Tbl.T, p.1 = P → p.2 = q) ∧ LamX.TabB base mg c P
structure Cxt (M : Md) (X : Cx) (B : Tb) (k : Nat) : Prop where
  hP : X.prog = M.P
  hw : X.w = M.w
  hK : X.K = M.K
  mg : X.mg = M.mg
  hb : X.base = M.base
  hN : X.N = B.N
  nd : B.N.Nodup
  calm : X.calm = true
  kind : B.fn = true → X.env.scope.kind = .function
  room : Room k X.A
  gu : B.gd = true → X.A.guards = some []
  vis : ∀ i ∈ B.us, ∀ x, B.N[i]? = some x → Vis X.env.scope x
  loc : ∀ i ∈ B.ls, ∀ x, B.N[i]? = some x → Loc X.env.scope x ∧ (X.fn x = true ∨ X.env.scope.names.lookup x = some .local)
  pl : ∀ i ∈ B.ps, ∀ x, B.N[i]? = some x → X.env.scope.names.lookup x = some .local
  gl : ∀ (j : Nat) x, B.gs[j]? = some x → Gl X x
  cs : ∀ x ∈ B.cs, X.env.scope.names.lookup x = some .cell ∨ X.env.scope.names.lookup x = some .free
  po : B.fn = true → PassesOwn (model X.prog X.w) X.A X.env X.xe
  lam : ∀ q, B.lq = some q → X.env.qual ++ "<lambda>" = q ∧ LamC M.mg M.base q X.env.code
  fr : B.fn = true → X.stack = X.env :: X.outer ∧ X.env.frame = some X.env.locals
theorem Cxt.sm {M : Md} {X : Cx} {B : Tb} {k : Nat} (c : Cxt M X B k) (h : SysM M.base) : SysM X.base := by rw [c.hb]; exact h
theorem Cxt.roomH {M : Md} {X : Cx} {B : Tb} {k : Nat} (c : Cxt M X B k) : L2H.RoomH k X.A := L2H.roomH_of c.room
section
variable {M : Md} {X : Cx} {B : Tb} {k : Nat} {pins : List (Addr × Obj)} {σ : L2.St} {H : Hp} {s : Shared} {m : Mp} {env : En} {st : Sto} {W : WX}
/-- use a value's judgement -/
theorem DE.go {e : Expr} {c : En → Sto → Rs Wv} (h : DE X e c) (tk : Takes X W) (I : Inv X pins σ H s) (S : Sim X.K H m st) (R : EnvR X.K H m st.length env σ) {Q : Value → Shared → Prop}
    (hp : (c env st).post (fun w st' => ∀ v H' m' u s', Inv X pins σ H' s' → RelV v u → Fol m st.length H m' st'.length H' → Sim X.K H' m' st' → RW X.K H' m' st'.length v w → Q u s') (okX X W m st.length H σ)) :
    wpAny (model X.prog X.w) X.A (eval e X.env) Q X.xe s := by
  refine thn ((h.pe W tk).run pins s σ H (fun v H' => ∀ u s', Inv X pins σ H' s' → RelV v u → Q u s') I ⟨m, env, st, S, R, Rs.post_mono hp (fun w st' q v H' m' f S' r u s' I' rv => q v H' m' u s' I' rv f S' r) fun _ _ q => q⟩) fun u s' q => ?_
  obtain ⟨v, H', I', rv, q⟩ := q
  exact q u s' I' rv
theorem DT.go {e : Expr} {c : En → Sto → Rs Bool} (h : DT X e c) (tk : Takes X W) (I : Inv X pins σ H s) (S : Sim X.K H m st) (R : EnvR X.K H m st.length env σ) {Q : Bool → Shared → Prop}
    (hp : (c env st).post (fun b st' => ∀ H' m' s', Inv X pins σ H' s' → Fol m st.length H m' st'.length H' → Sim X.K H' m' st' → Q b s') (okX X W m st.length H σ)) :
    wpAny (model X.prog X.w) X.A (isTrue e X.env (eval e X.env)) Q X.xe s := by
  refine thn ((h.pt W tk).run pins s σ H (fun b H' => ∀ s', Inv X pins σ H' s' → Q b s') I ⟨m, env, st, S, R, Rs.post_mono hp (fun b st' q H' m' f S' s' I' => q H' m' s' I' f S') fun _ _ q => q⟩) fun b s' q => ?_
  obtain ⟨H', I', q⟩ := q
  exact q s' I'
theorem DA.go {es : List Expr} {c : En → Sto → Rs (List Wv)} (h : DA X es c) (tk : Takes X W) (I : Inv X pins σ H s) (S : Sim X.K H m st) (R : EnvR X.K H m st.length env σ) {Q : List Value → Shared → Prop} (pos : Pos)
    (hp : (c env st).post (fun ws st' => ∀ vs H' m' us s', Inv X pins σ H' s' → Vals vs us → Fol m st.length H m' st'.length H' → Sim X.K H' m' st' → RWs X.K H' m' st'.length vs ws → Q us s') (okX X W m st.length H σ)) :
    wpAny (model X.prog X.w) X.A (spliced (backTo pos (starEach es X.env))) Q X.xe s := by
  refine thn ((h.pa W tk).run pos pins s σ H (fun vs H' => ∀ us s', Inv X pins σ H' s' → Vals vs us → Q us s') I ⟨m, env, st, S, R, Rs.post_mono hp (fun w st' q vs H' m' f S' r us s' I' rv => q vs H' m' us s' I' rv f S' r) fun _ _ q => q⟩) fun u s' q => ?_
  obtain ⟨v, H', I', rv, q⟩ := q
  exact q u s' I' rv
/-- state a value's judgement -/
theorem DE.mk' {e : Expr} {c : En → Sto → Rs Wv} (h : ∀ (W : WX) (pins : List (Addr × Obj)) (σ : L2.St) (H : Hp) (s : Shared) (m : Mp) (env : En) (st : Sto) (Q : Value → Shared → Prop), Takes X W → Inv X pins σ H s → Sim X.K H m st → EnvR X.K H m st.length env σ →
    (c env st).post (fun w st' => ∀ v H' m' u s', Inv X pins σ H' s' → RelV v u → Fol m st.length H m' st'.length H' → Sim X.K H' m' st' → RW X.K H' m' st'.length v w → Q u s') (okX X W m st.length H σ) →
    wpAny (model X.prog X.w) X.A (eval e X.env) Q X.xe s) : DE X e c := by
  refine ⟨fun W tk => ⟨fun pins s σ H Q I ⟨m, env, st, S, R, hp⟩ => h W pins σ H s m env st _ tk I S R (Rs.post_mono hp (fun w st' q v H' m' u s' I' rv f S' r => ?_) fun _ _ q => q)⟩⟩
  exact ⟨v, H', I', rv, q v H' m' f S' r⟩
theorem DT.mk' {e : Expr} {c : En → Sto → Rs Bool} (h : ∀ (W : WX) (pins : List (Addr × Obj)) (σ : L2.St) (H : Hp) (s : Shared) (m : Mp) (env : En) (st : Sto) (Q : Bool → Shared → Prop), Takes X W → Inv X pins σ H s → Sim X.K H m st → EnvR X.K H m st.length env σ →
    (c env st).post (fun b st' => ∀ H' m' s', Inv X pins σ H' s' → Fol m st.length H m' st'.length H' → Sim X.K H' m' st' → Q b s') (okX X W m st.length H σ) →
    wpAny (model X.prog X.w) X.A (isTrue e X.env (eval e X.env)) Q X.xe s) : DT X e c := by
  refine ⟨fun W tk => ⟨fun pins s σ H Q I ⟨m, env, st, S, R, hp⟩ => h W pins σ H s m env st _ tk I S R (Rs.post_mono hp (fun b st' q H' m' s' I' f S' => ?_) fun _ _ q => q)⟩⟩
  exact ⟨H', I', q H' m' f S'⟩
theorem DA.mk' {es : List Expr} {c : En → Sto → Rs (List Wv)} (h : ∀ (W : WX) (pins : List (Addr × Obj)) (σ : L2.St) (H : Hp) (s : Shared) (m : Mp) (env : En) (st : Sto) (Q : List Value → Shared → Prop) (pos : Pos), Takes X W → Inv X pins σ H s → Sim X.K H m st → EnvR X.K H m st.length env σ →
    (c env st).post (fun ws st' => ∀ vs H' m' us s', Inv X pins σ H' s' → Vals vs us → Fol m st.length H m' st'.length H' → Sim X.K H' m' st' → RWs X.K H' m' st'.length vs ws → Q us s') (okX X W m st.length H σ) →
    wpAny (model X.prog X.w) X.A (spliced (backTo pos (starEach es X.env))) Q X.xe s) : DA X es c := by
  refine ⟨fun W tk => ⟨fun pos pins s σ H Q I ⟨m, env, st, S, R, hp⟩ => h W pins σ H s m env st _ pos tk I S R (Rs.post_mono hp (fun w st' q v H' m' u s' I' rv f S' r => ?_) fun _ _ q => q)⟩⟩
  exact ⟨v, H', I', rv, q v H' m' f S' r⟩
/-- what follows a first part asks of the rest -/
theorem okX.tr {m1 : Mp} {n n1 : Nat} {H1 : Hp} {e : Xc} {st' : Sto} (f : Fol m n H m1 n1 H1) (h : okX X W m n H σ e st') : okX X W m1 n1 H1 σ e st' := fun c d H' m' f' S' r => h c d H' m' (f.trans f') S' r
/-! ### names, constants -/
def eVar (i : Nat) : En → Sto → Rs Wv := fun env st => match env[i]? with
  | some (some w) => .ok w st
  | _ => .no
theorem de_var (c : Cxt M X B k) (i : Nat) {x : Str} {pos : Pos} (h : B.N[i]? = some x) (hu : i ∈ B.us) (hd : (x == ("__debug__" : Str)) = false := by decide) (hc : (x == ("__classdict__" : Str)) = false := by decide) : DE X (.Name x pos) (eVar i) := by
  refine ⟨fun W tk => ⟨fun pins s σ H Q I ⟨m, env, st, S, R, hp⟩ => (pe_var (i := i) (by rw [c.hN]; exact h) (c.vis i hu x h) hd hc).run pins s σ H Q I ?_⟩⟩
  unfold eVar at hp
  split at hp
  · rename_i w e
    obtain ⟨v, hv, r⟩ := R.at' i w e
    exact ⟨v, hv, hp v H m .refl S r⟩
  · exact hp.elim
def eK (x : PyData) : En → Sto → Rs Wv := fun _ st => .ok (.d x) st
theorem de_pure {e : Expr} {v : V} {x : PyData} (h : PE X e (tC v)) (r : ∀ K H Z, Rp K H Z v x) : DE X e (eK x) :=
  ⟨fun W tk => ⟨fun pins s σ H Q I ⟨m, env, st, S, R, hp⟩ => h.run pins s σ H Q I (hp v H m .refl S (r _ _ _))⟩⟩
theorem de_int {i : Int} {j : Nat} {pos : Pos} : DE X (.Constant (.int i) j pos) (eK (.int i)) := de_pure pe_int fun _ _ _ => .int i
theorem de_bl {b : Bool} {j : Nat} {pos : Pos} : DE X (.Constant (.bool b) j pos) (eK (.bool b)) := de_pure pe_bl fun _ _ _ => .bl b
theorem de_non {j : Nat} {pos : Pos} : DE X (.Constant .none j pos) (eK .none) := de_pure pe_non fun _ _ _ => .non
theorem de_str {x : Str} {j : Nat} {pos : Pos} : DE X (.Constant (.str x) j pos) (eK (.str x)) := de_pure pe_str fun _ _ _ => .str x
/-- a constant of the module -/
theorem de_glob {x : Str} {pos : Pos} {v : V} {u : Value} {y : PyData} (c : Cxt M X B k) (j : Nat) (h : B.gs[j]? = some x) (hm : M.mg x = some u) (r : RelV v u) (ry : ∀ H Z, Rp M.K H Z v y) (hd : (x == ("__debug__" : Str)) = false := by decide) : DE X (.Name x pos) (eK y) :=
  ⟨fun W tk => ⟨fun pins s σ H Q I ⟨m, env, st, S, R, hp⟩ => (pe_glob (c.gl j x h) (by rw [c.mg]; exact hm) r hd).run pins s σ H Q I (hp v H m .refl S (by rw [c.hK]; exact ry _ _))⟩⟩
end
end
section
variable [Wtp] [Tbl]
/-! ## data at the top: a list of the store too -/
/-- a dict that is read -/
def DkT (K : Frg) (H : Hp) (Z : Addr → Prop) (a : Addr) (es : List (PyData × PyData)) : Prop := (∃ ks, Rd H a (.dK ks) ∧ RpK K H Z ks es) ∨ ∃ ks, Rd H a (.dT ks) ∧ RpT K H Z ks es
def RT (K : Frg) (H : Hp) (Z : Addr → Prop) (v : V) (d : PyData) : Prop :=
  Rp K H Z v d ∨ (∃ a vs ds, v = .ref a ∧ d = .list ds ∧ H a = some (.lst vs) ∧ RpA K H Z vs ds) ∨ ∃ a, ∃ (_ : Unit), ∃ es, v = .ref a ∧ d = .dict es ∧ DkT K H Z a es
inductive RTs (K : Frg) (H : Hp) (Z : Addr → Prop) : List V → List PyData → Prop
  | nil : RTs K H Z [] []
  | cons {v : V} {vs : List V} {d : PyData} {ds : List PyData} : RT K H Z v d → RTs K H Z vs ds → RTs K H Z (v :: vs) (d :: ds)
section
variable {K : Frg} {H : Hp} {Z : Addr → Prop} {m : Mp} {st : Sto} {v : V}
theorem look_rt {w : Wv} {d : PyData} (S : Sim K H m st) (r : RW K H m st.length v w) (e : look st w = some d) : RT K H (Off m st.length) v d := by
  cases w with
  | d x =>
    cases e
    exact .inl r
  | r i =>
    obtain ⟨hi, rfl⟩ := r
    simp only [look] at e
    cases q : st[i]? with
    | none => rw [q] at e; cases e
    | some o =>
      rw [q] at e
      have h := S.ob i o q
      cases o with
      | lst xs =>
        cases e
        obtain ⟨vs, h1, h2⟩ := h
        exact .inr (.inl ⟨_, vs, xs, rfl, rfl, h1, h2⟩)
      | dct kvs =>
        cases e
        obtain ⟨vs, h1, h2⟩ := h
        exact .inr (.inr ⟨_, (), kvs, rfl, rfl, .inl ⟨vs, .inl h1, h2⟩⟩)
      | dtt kvs =>
        cases e
        obtain ⟨vs, h1, h2⟩ := h
        exact .inr (.inr ⟨_, (), kvs, rfl, rfl, .inr ⟨vs, .inl h1, h2⟩⟩)
      | lkd kvs =>
        cases e
        exact .inl h
      | lkl xs =>
        cases e
        exact .inl (FzL.rp h)
      | ins C es => cases e
  | x a c d => cases e
theorem RT.non (h : RT K H Z v .none) : v = .non := by
  rcases h with h | ⟨_, _, _, _, e, _⟩ | ⟨_, _, _, _, e, _⟩
  · cases h; rfl
  · cases e
  · cases e
theorem RT.int {i : Int} (h : RT K H Z v (.int i)) : v = .int i := by
  rcases h with h | ⟨_, _, _, _, e, _⟩ | ⟨_, _, _, _, e, _⟩
  · cases h; rfl
  · cases e
  · cases e
theorem RT.bl {b : Bool} (h : RT K H Z v (.bool b)) : v = .bl b := by
  rcases h with h | ⟨_, _, _, _, e, _⟩ | ⟨_, _, _, _, e, _⟩
  · cases h; rfl
  · cases e
  · cases e
theorem RT.str {x : Str} (h : RT K H Z v (.str x)) : v = .str x := by
  rcases h with h | ⟨_, _, _, _, e, _⟩ | ⟨_, _, _, _, e, _⟩
  · cases h; rfl
  · cases e
  · cases e
theorem RT.tupT {ds : List PyData} (h : RT K H Z v (.tuple ds)) : ∃ a vs, v = .ref a ∧ TpAt K H a vs ds ∧ RpA K H Z vs ds := by
  rcases h with h | ⟨_, _, _, _, e, _⟩ | ⟨_, _, _, _, e, _⟩
  · cases h with | tup h1 h2 => exact ⟨_, _, rfl, h1, h2⟩
  · cases e
  · cases e
theorem RT.tup {ds : List PyData} (h : RT K H Z v (.tuple ds)) : ∃ a vs, v = .ref a ∧ SqT K H a vs ∧ RpA K H Z vs ds := by
  rcases h with h | ⟨_, _, _, _, e, _⟩ | ⟨_, _, _, _, e, _⟩
  · cases h with | tup h1 h2 => exact ⟨_, _, rfl, h1.sq, h2⟩
  · cases e
  · cases e
theorem RT.lst {ds : List PyData} (h : RT K H Z v (.list ds)) : ∃ a vs, v = .ref a ∧ LsX K H a vs ∧ RpA K H Z vs ds := by
  rcases h with h | ⟨a, vs, xs, rfl, e, h1, h2⟩ | ⟨_, _, _, _, e, _⟩
  · cases h with | lst h1 h2 => exact ⟨_, _, rfl, h1.x, h2⟩
  · cases e; exact ⟨a, vs, rfl, .inl ⟨h1, trivial⟩, h2⟩
  · cases e
theorem RT.dic {es : List (PyData × PyData)} (h : RT K H Z v (.dict es)) : ∃ a, v = .ref a ∧ DkT K H Z a es := by
  rcases h with h | ⟨_, _, _, _, e, _⟩ | ⟨a, ks, xs, rfl, e, h1⟩
  · cases h with
    | dic h1 h2 => exact ⟨_, rfl, .inl ⟨_, .inr ⟨_, h1⟩, h2⟩⟩
    | dit h1 h2 => exact ⟨_, rfl, .inr ⟨_, .inr ⟨_, h1⟩, h2⟩⟩
  · cases e
  · cases e; exact ⟨a, rfl, h1⟩
end
section
variable {X : Cx} {pins : List (Addr × Obj)} {σ : L2.St} {H : Hp} {s : Shared} {Z : Addr → Prop}
theorem Inv.rtM (I : Inv X pins σ H s) {v : V} {u : Value} {d : PyData} (h : RT X.K H Z v d) (r : RelV v u) : ∃ as, Reads s.heap u d as ∧ (SysM s.heap → sysModules ∉ as) := by
  rcases h with h | ⟨a, vs, ds, rfl, rfl, h1, h2⟩ | ⟨a, ks, es, rfl, rfl, h1⟩
  · exact Rp.readsM I d v u h r
  · cases r
    obtain ⟨its, rv, ⟨o, n, ho, hc, _, hd⟩, _⟩ := I.list (.inl (.inl h1))
    obtain ⟨as, hr, g⟩ := RpA.readsM I ds _ its h2 rv
    exact ⟨_, .list ho hc hd hr, fun S => off_cons (S.seq ho hd) (g S)⟩
  · cases r
    rcases h1 with ⟨ks, h1, h2⟩ | ⟨ks, h1, h2⟩
    · obtain ⟨_, hm, vs, kv, o, ents, ep, ho, hc, hd, _, he, _⟩ := (show ObjOk X.prog X.w H s.heap _ (.dK _) from h1.ok I.hok)
      obtain ⟨as, bs, r1, r2, g1, g2⟩ := RpK.readsM I es _ vs ents.toList h2 kv he
      exact ⟨_, .dict ho hc.1 hd r1 r2, fun S => off_app (off_cons (fun z => by subst z; cases hm) (g1 S)) (g2 S)⟩
    · obtain ⟨_, hm, xs, kt, o, ents, ep, ho, hc, hd, he, _⟩ := (show ObjOk X.prog X.w H s.heap _ (.dT _) from h1.ok I.hok)
      obtain ⟨as, bs, r1, r2, g1, g2⟩ := RpT.readsM I es _ xs h2 kt
      rw [← he] at r1 r2
      exact ⟨_, .dict ho hc.1 hd r1 r2, fun S => off_app (off_cons (fun z => by subst z; cases hm) (g1 S)) (g2 S)⟩
theorem Inv.rt (I : Inv X pins σ H s) {v : V} {u : Value} {d : PyData} (h : RT X.K H Z v d) (r : RelV v u) : ∃ as, Reads s.heap u d as := let ⟨as, q, _⟩ := Inv.rtM I h r; ⟨as, q⟩
end
/-! ## operations on data -/
/-- what an operation's rule tells: its end, for whoever goes on -/
def rOut (K : Frg) (H : Hp) (Z : Addr → Prop) (r : PyData) (Q : VK) : Prop := ∀ z H', (∀ a o, H a = some o → H' a = some o) → Rp K H' Z z r → Q z H'
def rD (K : Frg) (f : PyData → PyData → Option PyData) : R2 := fun x y H Q => ∃ Z d e r, (∀ a, H a = none → Z a) ∧ RT K H Z x d ∧ RT K H Z y e ∧ f d e = some r ∧ rOut K H Z r Q
def rN (K : Frg) (f : List PyData → Option PyData) : List V → Hp → VK → Prop := fun vs H Q => ∃ Z ds r, (∀ a, H a = none → Z a) ∧ RTs K H Z vs ds ∧ f ds = some r ∧ rOut K H Z r Q
/-- the truth of data -/
def truD : PyData → Bool
  | .none => false
  | .bool b => b
  | .int i => i != 0
  | .str x => x.length != 0
  | .list xs => !xs.isEmpty
  | .tuple xs => !xs.isEmpty
  | .dict es => !es.isEmpty
def strOk : PyData → Bool
  | .str x => decide (x.length ≤ 1000000)
  | .dict _ => false
  | _ => true
theorem line_lim : 1000000 ≤ sizeLine := by rw [sizeLine_eq]; decide
def ret1 (r : Option PyData) (st : Sto) : Rs Wv := match r with
  | some x => .ok (.d x) st
  | none => .no
@[simp] theorem ret1_some (x : PyData) (st : Sto) : ret1 (some x) st = .ok (.d x) st := rfl
@[simp] theorem ret1_none (st : Sto) : ret1 none st = .no := rfl
def look1 (w : Wv) (st : Sto) (f : PyData → Rs Wv) : Rs Wv := match look st w with
  | some d => f d
  | none => .no
@[simp] theorem look1_d (x : PyData) (st : Sto) (f : PyData → Rs Wv) : look1 (.d x) st f = f x := rfl
def looks : List Wv → Sto → Option (List PyData)
  | [], _ => some []
  | w :: ws, st => match look st w, looks ws st with
    | some d, some ds => some (d :: ds)
    | _, _ => none
@[simp] theorem looks_nil (st : Sto) : looks [] st = some [] := rfl
@[simp] theorem looks_d (x : PyData) (ws : List Wv) (st : Sto) : looks (.d x :: ws) st = (looks ws st).map (x :: ·) := by
  simp only [looks, look_d]
  cases looks ws st <;> rfl
def eOp2 (f : PyData → PyData → Option PyData) (ca cb : En → Sto → Rs Wv) : En → Sto → Rs Wv := fun env st =>
  (ca env st).bind fun a st1 => (cb env st1).bind fun b st2 => look1 a st2 fun d => look1 b st2 fun e => ret1 (f d e) st2
def eOp1 (f : PyData → Option PyData) (ca : En → Sto → Rs Wv) : En → Sto → Rs Wv := fun env st => (ca env st).bind fun a st1 => look1 a st1 fun d => ret1 (f d) st1
def aNil : En → Sto → Rs (List Wv) := fun _ st => .ok [] st
def aCons (ca : En → Sto → Rs Wv) (cs : En → Sto → Rs (List Wv)) : En → Sto → Rs (List Wv) := fun env st => (ca env st).bind fun a st1 => (cs env st1).bind fun r st2 => .ok (a :: r) st2
def eOpN (f : List PyData → Option PyData) (cs : En → Sto → Rs (List Wv)) : En → Sto → Rs Wv := fun env st =>
  (cs env st).bind fun ws st1 => match looks ws st1 with
    | some ds => ret1 (f ds) st1
    | none => .no
/-- the truth of a value -/
def tru (w : Wv) (st : Sto) : Rs Bool := match look st w with
  | some d => if strOk d then .ok (truD d) st else .no
  | none => .no
@[simp] theorem tru_bool (b : Bool) (st : Sto) : tru (.d (.bool b)) st = .ok b st := rfl
def tTru (c : En → Sto → Rs Wv) : En → Sto → Rs Bool := fun env st => (c env st).bind tru
def tAnd2 (a b : En → Sto → Rs Bool) : En → Sto → Rs Bool := fun env st => (a env st).bind fun x st1 => if x then b env st1 else .ok false st1
def tOr2 (a b : En → Sto → Rs Bool) : En → Sto → Rs Bool := fun env st => (a env st).bind fun x st1 => if x then .ok true st1 else b env st1
def tNot1 (a : En → Sto → Rs Bool) : En → Sto → Rs Bool := fun env st => (a env st).bind fun x st1 => .ok (!x) st1
def eAnd2 (a b : En → Sto → Rs Wv) : En → Sto → Rs Wv := fun env st => (a env st).bind fun w st1 => (tru w st1).bind fun x st2 => if x then b env st2 else .ok w st2
def eOr2 (a b : En → Sto → Rs Wv) : En → Sto → Rs Wv := fun env st => (a env st).bind fun w st1 => (tru w st1).bind fun x st2 => if x then .ok w st2 else b env st2
def eNot1 (a : En → Sto → Rs Wv) : En → Sto → Rs Wv := fun env st => (a env st).bind fun w st1 => (tru w st1).bind fun x st2 => .ok (.d (.bool (!x))) st2
def eIf (t : En → Sto → Rs Bool) (a b : En → Sto → Rs Wv) : En → Sto → Rs Wv := fun env st => (t env st).bind fun x st1 => if x then a env st1 else b env st1
/-- a op b op' c -/
def eChain (f g : PyData → PyData → Option PyData) (ca cb cc : En → Sto → Rs Wv) : En → Sto → Rs Wv := fun env st =>
  (ca env st).bind fun a st1 => (cb env st1).bind fun b st2 => look1 a st2 fun d => look1 b st2 fun e => match f d e with
    | some (.bool true) => (cc env st2).bind fun c st3 => look1 b st3 fun e' => look1 c st3 fun y => ret1 (g e' y) st3
    | some (.bool false) => .ok (.d (.bool false)) st2
    | _ => .no
def allD : List Wv → Option (List PyData)
  | [] => some []
  | .d x :: ws => (allD ws).map (x :: ·)
  | .r _ :: _ => none
  | .x _ _ _ :: _ => none
@[simp] theorem allD_nil : allD [] = some [] := rfl
@[simp] theorem allD_cons (x : PyData) (ws : List Wv) : allD (.d x :: ws) = (allD ws).map (x :: ·) := rfl
def eTup (cs : En → Sto → Rs (List Wv)) : En → Sto → Rs Wv := fun env st => (cs env st).bind fun ws st1 => match allD ws with
  | some ds => if ds.length ≤ 1000000 then .ok (.d (.tuple ds)) st1 else .no
  | none => .no
def eLst (cs : En → Sto → Rs (List Wv)) : En → Sto → Rs Wv := fun env st => (cs env st).bind fun ws st1 => match allD ws with
  | some ds => if ds.length ≤ 1000000 then .ok (.d (.list ds)) st1 else .no
  | none => .no
/-- a new list of the store -/
def eNewL (cs : En → Sto → Rs (List Wv)) : En → Sto → Rs Wv := fun env st => (cs env st).bind fun ws st1 => match allD ws with
  | some ds => if ds.length ≤ 1000000 then .ok (.r st1.length) (st1 ++ [.lst ds]) else .no
  | none => .no
def eNewD : En → Sto → Rs Wv := fun _ st => .ok (.r st.length) (st ++ [.dct []])
/-- a new dict whose keys will be tuples -/
def eNewT : En → Sto → Rs Wv := fun _ st => .ok (.r st.length) (st ++ [.dtt []])
def eDic0 : En → Sto → Rs Wv := eK (.dict [])
section
variable {M : Md} {X : Cx} {B : Tb} {k : Nat} {pins : List (Addr × Obj)} {σ : L2.St} {H : Hp} {s : Shared} {m : Mp} {env : En} {st : Sto} {W : WX}
  {a b : Expr} {ca cb cc : En → Sto → Rs Wv} {pos : Pos}
theorem PE.imp {e : Expr} {t t' : TE} (h : PE X e t) (q : ∀ σ H Q, t' σ H Q → t σ H Q) : PE X e t' := ⟨fun pins s σ H Q I x => h.run pins s σ H Q I (q σ H Q x)⟩
theorem PT.imp {e : Expr} {t t' : TT} (h : PT X e t) (q : ∀ σ H Q, t' σ H Q → t σ H Q) : PT X e t' := ⟨fun pins s σ H Q I x => h.run pins s σ H Q I (q σ H Q x)⟩
theorem PW.imp {e : Expr} {t t' : TT} (h : PW X e t) (q : ∀ σ H Q, t' σ H Q → t σ H Q) : PW X e t' := ⟨fun wh pins s σ H Q I x => h.run wh pins s σ H Q I (q σ H Q x)⟩
theorem PA.imp {e : List Expr} {t t' : TA} (h : PA X e t) (q : ∀ σ H Q, t' σ H Q → t σ H Q) : PA X e t' := ⟨fun pos pins s σ H Q I x => h.run pos pins s σ H Q I (q σ H Q x)⟩
theorem look1_post {w : Wv} {f : PyData → Rs Wv} {Q : Wv → Sto → Prop} {R : Xc → Sto → Prop} (h : (look1 w st f).post Q R) : ∃ d, look st w = some d ∧ (f d).post Q R := by
  unfold look1 at h
  split at h
  · exact ⟨_, by assumption, h⟩
  · exact h.elim
theorem ret1_post {r : Option PyData} {Q : Wv → Sto → Prop} {R : Xc → Sto → Prop} (h : (ret1 r st).post Q R) : ∃ d, r = some d ∧ Q (.d d) st := by
  unfold ret1 at h
  split at h
  · exact ⟨_, rfl, h⟩
  · exact h.elim
/-- an operation's end goes on -/
theorem okE.out {m1 : Mp} {H1 : Hp} {st1 : Sto} {n : Nat} {r : PyData} {Q : VK} (f : Fol m n H m1 st1.length H1) (S : Sim X.K H1 m1 st1) (q : okE X m n H Q (.d r) st1) : rOut X.K H1 (Off m1 st1.length) r Q := fun z H' g h =>
  q z H' m1 (f.trans (.same g)) (S.grow g) h
/-- two parts, then what is asked of both -/
theorem te_two (f : PyData → PyData → Option PyData) {Q : VK} (h : tE X W (eOp2 f ca cb) σ H Q) : tOp (rD X.K f) (tE X W ca) (tE X W cb) σ H Q := by
  obtain ⟨m, env, st, S, R, hp⟩ := h
  unfold eOp2 at hp
  rw [Rs.post_bind] at hp
  refine ⟨m, env, st, S, R, Rs.post_mono hp (fun w st1 q v H1 m1 f1 S1 r1 => ?_) fun _ _ q => q⟩
  rw [Rs.post_bind] at q
  refine ⟨m1, env, st1, S1, R.mv f1, Rs.post_mono q (fun w2 st2 q v2 H2 m2 f2 S2 r2 => ?_) fun _ _ q => okX.tr f1 q⟩
  obtain ⟨d, e1, q⟩ := look1_post q
  obtain ⟨e, e2, q⟩ := look1_post q
  obtain ⟨r, e3, q⟩ := ret1_post q
  exact ⟨_, d, e, r, fun a => S2.fresh, look_rt S2 (r1.mv f2) e1, look_rt S2 r2 e2, e3, okE.out (f1.trans f2) S2 q⟩
theorem looks_rt {vs : List V} {ws : List Wv} {ds : List PyData} (S : Sim X.K H m st) (r : RWs X.K H m st.length vs ws) (e : looks ws st = some ds) : RTs X.K H (Off m st.length) vs ds := by
  induction r generalizing ds with
  | nil => cases e; exact .nil
  | cons r1 r2 ih =>
    unfold looks at e
    split at e
    · cases e
      exact .cons (look_rt S r1 (by assumption)) (ih (by assumption))
    · cases e
theorem te_all (f : List PyData → Option PyData) {cs : En → Sto → Rs (List Wv)} {Q : VK} (h : tE X W (eOpN f cs) σ H Q) : tCB (rN X.K f) (tA X W cs) σ H Q := by
  obtain ⟨m, env, st, S, R, hp⟩ := h
  unfold eOpN at hp
  rw [Rs.post_bind] at hp
  refine ⟨m, env, st, S, R, Rs.post_mono hp (fun ws st1 q vs H1 m1 f1 S1 r1 => ?_) fun _ _ q => q⟩
  split at q
  · obtain ⟨r, e3, q⟩ := ret1_post q
    exact ⟨_, _, r, fun a => S1.fresh, looks_rt S1 r1 (by assumption), e3, okE.out f1 S1 q⟩
  · exact q.elim
/-! ### argument lists, operators -/
theorem da_nil : DA X [] aNil := ⟨fun W tk => ⟨fun pos pins s σ H Q I ⟨m, env, st, S, R, hp⟩ => pa_nil.run pos pins s σ H Q I (hp [] H m .refl S .nil)⟩⟩
theorem da_cons {e : Expr} {es : List Expr} {cs : En → Sto → Rs (List Wv)} (ha : DE X e ca) (hr : DA X es cs) (hs : starEach (e :: es) X.env = (false, eval e X.env) :: starEach es X.env := by rfl) : DA X (e :: es) (aCons ca cs) := by
  refine ⟨fun W tk => PA.imp (pa_cons (ha.pe W tk) (hr.pa W tk) hs) fun σ H Q ⟨m, env, st, S, R, hp⟩ => ?_⟩
  unfold aCons at hp
  rw [Rs.post_bind] at hp
  refine ⟨m, env, st, S, R, Rs.post_mono hp (fun w st1 q v H1 m1 f1 S1 r1 => ?_) fun _ _ q => q⟩
  rw [Rs.post_bind] at q
  refine ⟨m1, env, st1, S1, R.mv f1, Rs.post_mono q (fun ws st2 q vs H2 m2 f2 S2 r2 => ?_) fun _ _ q => okX.tr f1 q⟩
  exact q (v :: vs) H2 m2 (f1.trans f2) S2 (.cons (r1.mv f2) r2)
theorem de_bin {op : Operator} {f : PyData → PyData → Option PyData} (ho : OpR X (binaryOp op) (rD X.K f)) (ha : DE X a ca) (hb : DE X b cb) : DE X (.BinOp a op b pos) (eOp2 f ca cb) :=
  ⟨fun W tk => PE.imp (pe_op ho (ha.pe W tk) (hb.pe W tk)) fun σ H Q => te_two f⟩
theorem de_cmp {op : CmpOp} {f : PyData → PyData → Option PyData} (ho : OpR X (compareOp op) (rD X.K f)) (ha : DE X a ca) (hb : DE X b cb) (hm : behindInMarks op b = false) : DE X (.Compare a [op] [b] pos) (eOp2 f ca cb) :=
  ⟨fun W tk => PE.imp (pe_cmpR ho (ha.pe W tk) (hb.pe W tk) hm) fun σ H Q => te_two f⟩
/-- tests of bools -/
def tBl (c : En → Sto → Rs Wv) : En → Sto → Rs Bool := fun env st => (c env st).bind fun w st1 => match w with
  | .d (.bool b) => .ok b st1
  | _ => .no
theorem tt_of {Q : Bool → Hp → Prop} {c : En → Sto → Rs Wv} (h : tT X W (tBl c) σ H Q) : tE X W c σ H fun x H' => ∃ k, x = .bl k ∧ Q k H' := by
  obtain ⟨m, env, st, S, R, hp⟩ := h
  unfold tBl at hp
  rw [Rs.post_bind] at hp
  refine ⟨m, env, st, S, R, Rs.post_mono hp (fun w st1 q v H1 m1 f1 S1 r1 => ?_) fun _ _ q => q⟩
  split at q
  · cases r1
    exact ⟨_, rfl, q H1 m1 f1 S1⟩
  · exact q.elim
theorem dt_cmp {op : CmpOp} {f : PyData → PyData → Option PyData} (ho : OpR X (compareOp op) (rD X.K f)) (ha : DE X a ca) (hb : DE X b cb) (hm : behindInMarks op b = false) : DT X (.Compare a [op] [b] pos) (tBl (eOp2 f ca cb)) :=
  ⟨fun W tk => PT.imp (pt_cmpR ho (ha.pe W tk) (hb.pe W tk) hm) fun σ H Q h => te_two f (tt_of h)⟩
theorem te_chain {f g : PyData → PyData → Option PyData} {Q : VK} (h : tE X W (eChain f g ca cb cc) σ H Q) : tChain (rD X.K f) (rD X.K g) (tE X W ca) (tE X W cb) (tE X W cc) σ H Q := by
  obtain ⟨m, env, st, S, R, hp⟩ := h
  unfold eChain at hp
  rw [Rs.post_bind] at hp
  refine ⟨m, env, st, S, R, Rs.post_mono hp (fun w st1 q v H1 m1 f1 S1 r1 => ?_) fun _ _ q => q⟩
  rw [Rs.post_bind] at q
  refine ⟨m1, env, st1, S1, R.mv f1, Rs.post_mono q (fun w2 st2 q v2 H2 m2 f2 S2 r2 => ?_) fun _ _ q => okX.tr f1 q⟩
  obtain ⟨d, e1, q⟩ := look1_post q
  obtain ⟨e, e2, q⟩ := look1_post q
  split at q
  · rename_i e3
    refine ⟨_, d, e, _, fun a => S2.fresh, look_rt S2 (r1.mv f2) e1, look_rt S2 r2 e2, e3, fun z H' g0 h => ?_⟩
    cases h
    refine ⟨true, rfl, ?_⟩
    rw [if_pos rfl]
    have g2 : Fol m2 st2.length H2 m2 st2.length H' := .same g0
    rw [Rs.post_bind] at q
    refine ⟨m2, env, st2, S2.grow g0, (R.mv f1).mv (f2.trans g2), Rs.post_mono q (fun w3 st3 q v3 H3 m3 f3 S3 r3 => ?_) fun _ _ q => okX.tr (f1.trans (f2.trans g2)) q⟩
    obtain ⟨e', e4, q⟩ := look1_post q
    obtain ⟨y, e5, q⟩ := look1_post q
    obtain ⟨r, e6, q⟩ := ret1_post q
    exact ⟨_, e', y, r, fun a => S3.fresh, look_rt S3 ((r2.mv g2).mv f3) e4, look_rt S3 r3 e5, e6, okE.out ((f1.trans (f2.trans g2)).trans f3) S3 q⟩
  · rename_i e3
    refine ⟨_, d, e, _, fun a => S2.fresh, look_rt S2 (r1.mv f2) e1, look_rt S2 r2 e2, e3, fun z H' g0 h => ?_⟩
    cases h
    refine ⟨false, rfl, ?_⟩
    rw [if_neg Bool.false_ne_true]
    exact q _ _ m2 ((f1.trans f2).trans (.same g0)) (S2.grow g0) (.bl false)
  · exact q.elim
theorem de_chain {op op' : CmpOp} {f g : PyData → PyData → Option PyData} {c : Expr} (ho : OpR X (compareOp op) (rD X.K f)) (ho' : OpR X (compareOp op') (rD X.K g)) (ha : DE X a ca) (hb : DE X b cb) (hc : DE X c cc)
    (hm : lastMarks [op, op'] [b, c] = false := by with_unfolding_all rfl) : DE X (.Compare a [op, op'] [b, c] pos) (eChain f g ca cb cc) :=
  ⟨fun W tk => PE.imp (pe_chain ho ho' (ha.pe W tk) (hb.pe W tk) (hc.pe W tk) hm) fun σ H Q => te_chain⟩
theorem dt_chain {op op' : CmpOp} {f g : PyData → PyData → Option PyData} {c : Expr} (ho : OpR X (compareOp op) (rD X.K f)) (ho' : OpR X (compareOp op') (rD X.K g)) (ha : DE X a ca) (hb : DE X b cb) (hc : DE X c cc)
    (hm : lastMarks [op, op'] [b, c] = false := by with_unfolding_all rfl) : DT X (.Compare a [op, op'] [b, c] pos) (tBl (eChain f g ca cb cc)) :=
  ⟨fun W tk => PT.imp (pt_chain ho ho' (ha.pe W tk) (hb.pe W tk) (hc.pe W tk) hm) fun σ H Q h => te_chain (tt_of h)⟩
/-! ### truth, and, or, not -/
theorem truV_of {v : V} {d : PyData} {Z : Addr → Prop} (r : RT X.K H Z v d) (h : strOk d = true) : TruV X.K v H (truD d) := by
  cases d with
  | none => rw [r.non]; rfl
  | bool b => rw [r.bl]; rfl
  | int i => rw [r.int]; rfl
  | str x =>
    rw [r.str]
    refine ⟨Nat.le_trans (of_decide_eq_true h) line_lim, ?_⟩
    show (x.length != 0) = ((x.length : Int) != 0)
    cases x.length <;> rfl
  | list xs =>
    obtain ⟨a, vs, rfl, h1, h2⟩ := r.lst
    refine .inl ⟨vs, h1.sq, ?_⟩
    cases h2 <;> rfl
  | tuple xs =>
    obtain ⟨a, vs, rfl, h1, h2⟩ := r.tup
    refine .inr (.inl ⟨vs, h1, ?_⟩)
    cases h2 <;> rfl
  | dict es => cases h
theorem tru_post {w : Wv} {Q : Bool → Sto → Prop} {R : Xc → Sto → Prop} (h : (tru w st).post Q R) : ∃ d, look st w = some d ∧ strOk d = true ∧ Q (truD d) st := by
  unfold tru at h
  split at h
  · split at h
    · exact ⟨_, by assumption, by assumption, h⟩
    · exact h.elim
  · exact h.elim
theorem dt_val (ha : DE X a ca) (he : ∀ whole, isTrue a X.env whole = (do let v ← whole; standAt a.pos; holding [v] (truthy v)) := by intro _; rfl) : DT X a (tTru ca) := by
  refine ⟨fun W tk => PT.imp (pt_truth (ha.pe W tk) he) fun σ H Q ⟨m, env, st, S, R, hp⟩ => ?_⟩
  unfold tTru at hp
  rw [Rs.post_bind] at hp
  refine ⟨m, env, st, S, R, Rs.post_mono hp (fun w st1 q v H1 m1 f1 S1 r1 => ?_) fun _ _ q => q⟩
  obtain ⟨d, e1, e2, q⟩ := tru_post q
  exact ⟨_, truV_of (look_rt S1 r1 e1) e2, q H1 m1 f1 S1⟩
/-- a test whatever its 'whole' is -/
structure DW (X : Cx) (e : Expr) (c : En → Sto → Rs Bool) : Prop where
  pw : ∀ W, Takes X W → PW X e (tT X W c)
theorem DW.dt {e : Expr} {c : En → Sto → Rs Bool} (h : DW X e c) : DT X e c := ⟨fun W tk => (h.pw W tk).pt⟩
variable {ta tb : En → Sto → Rs Bool} {rest : List Expr}
theorem dw_and1 (ha : DT X a ta) : DW X (.BoolOp .And [a] pos) ta := ⟨fun W tk => pw_and1 (ha.pt W tk)⟩
theorem dw_or1 (ha : DT X a ta) : DW X (.BoolOp .Or [a] pos) ta := ⟨fun W tk => pw_or1 (ha.pt W tk)⟩
theorem dw_and (ha : DT X a ta) (hb : DW X (.BoolOp .And (b :: rest) pos) tb) : DW X (.BoolOp .And (a :: b :: rest) pos) (tAnd2 ta tb) := by
  refine ⟨fun W tk => PW.imp (pw_and (ha.pt W tk) (hb.pw W tk)) fun σ H Q ⟨m, env, st, S, R, hp⟩ => ?_⟩
  unfold tAnd2 at hp
  rw [Rs.post_bind] at hp
  refine ⟨m, env, st, S, R, Rs.post_mono hp (fun x st1 q H1 m1 f1 S1 => ?_) fun _ _ q => q⟩
  cases x with
  | true => exact ⟨m1, env, st1, S1, R.mv f1, Rs.post_mono q (fun y st2 q H2 m2 f2 S2 => q H2 m2 (f1.trans f2) S2) fun _ _ q => okX.tr f1 q⟩
  | false => exact q H1 m1 f1 S1
theorem dw_or (ha : DT X a ta) (hb : DW X (.BoolOp .Or (b :: rest) pos) tb) : DW X (.BoolOp .Or (a :: b :: rest) pos) (tOr2 ta tb) := by
  refine ⟨fun W tk => PW.imp (pw_or (ha.pt W tk) (hb.pw W tk)) fun σ H Q ⟨m, env, st, S, R, hp⟩ => ?_⟩
  unfold tOr2 at hp
  rw [Rs.post_bind] at hp
  refine ⟨m, env, st, S, R, Rs.post_mono hp (fun x st1 q H1 m1 f1 S1 => ?_) fun _ _ q => q⟩
  cases x with
  | false => exact ⟨m1, env, st1, S1, R.mv f1, Rs.post_mono q (fun y st2 q H2 m2 f2 S2 => q H2 m2 (f1.trans f2) S2) fun _ _ q => okX.tr f1 q⟩
  | true => exact q H1 m1 f1 S1
theorem dt_not (ha : DT X a ta) : DT X (.UnaryOp .Not a pos) (tNot1 ta) := by
  refine ⟨fun W tk => PT.imp (pt_not (ha.pt W tk)) fun σ H Q ⟨m, env, st, S, R, hp⟩ => ?_⟩
  unfold tNot1 at hp
  rw [Rs.post_bind] at hp
  exact ⟨m, env, st, S, R, Rs.post_mono hp (fun x st1 q H1 m1 f1 S1 => q H1 m1 f1 S1) fun _ _ q => q⟩
/-- as values -/
theorem de_one {op : BoolOp} (ha : DE X a ca) : DE X (.BoolOp op [a] pos) ca := ⟨fun W tk => pe_one (ha.pe W tk)⟩
theorem de_and (ha : DE X a ca) (hb : DE X (.BoolOp .And (b :: rest) pos) cb) : DE X (.BoolOp .And (a :: b :: rest) pos) (eAnd2 ca cb) := by
  refine ⟨fun W tk => PE.imp (pe_andT (ha.pe W tk) (hb.pe W tk)) fun σ H Q ⟨m, env, st, S, R, hp⟩ => ?_⟩
  unfold eAnd2 at hp
  rw [Rs.post_bind] at hp
  refine ⟨m, env, st, S, R, Rs.post_mono hp (fun w st1 q v H1 m1 f1 S1 r1 => ?_) fun _ _ q => q⟩
  rw [Rs.post_bind] at q
  obtain ⟨d, e1, e2, q⟩ := tru_post q
  refine ⟨_, truV_of (look_rt S1 r1 e1) e2, ?_⟩
  cases q2 : truD d with
  | true =>
    rw [q2, if_pos rfl] at q
    exact ⟨m1, env, st1, S1, R.mv f1, Rs.post_mono q (fun y st2 q v2 H2 m2 f2 S2 r2 => q v2 H2 m2 (f1.trans f2) S2 r2) fun _ _ q => okX.tr f1 q⟩
  | false =>
    rw [q2, if_neg Bool.false_ne_true] at q
    exact q v H1 m1 f1 S1 r1
theorem de_not (ha : DE X a ca) : DE X (.UnaryOp .Not a pos) (eNot1 ca) := by
  refine ⟨fun W tk => PE.imp (pe_notT (ha.pe W tk)) fun σ H Q ⟨m, env, st, S, R, hp⟩ => ?_⟩
  unfold eNot1 at hp
  rw [Rs.post_bind] at hp
  refine ⟨m, env, st, S, R, Rs.post_mono hp (fun w st1 q v H1 m1 f1 S1 r1 => ?_) fun _ _ q => q⟩
  rw [Rs.post_bind] at q
  obtain ⟨d, e1, e2, q⟩ := tru_post q
  exact ⟨_, truV_of (look_rt S1 r1 e1) e2, q _ H1 m1 f1 S1 (.bl _)⟩
theorem de_if {c : Expr} (hc : DT X c ta) (ha : DE X a ca) (hb : DE X b cb) : DE X (.IfExp c a b pos) (eIf ta ca cb) := by
  refine ⟨fun W tk => PE.imp (pe_ifExp (hc.pt W tk) (ha.pe W tk) (hb.pe W tk)) fun σ H Q ⟨m, env, st, S, R, hp⟩ => ?_⟩
  unfold eIf at hp
  rw [Rs.post_bind] at hp
  refine ⟨m, env, st, S, R, Rs.post_mono hp (fun x st1 q H1 m1 f1 S1 => ?_) fun _ _ q => q⟩
  cases x with
  | true => exact ⟨m1, env, st1, S1, R.mv f1, Rs.post_mono q (fun y st2 q v2 H2 m2 f2 S2 r2 => q v2 H2 m2 (f1.trans f2) S2 r2) fun _ _ q => okX.tr f1 q⟩
  | false => exact ⟨m1, env, st1, S1, R.mv f1, Rs.post_mono q (fun y st2 q v2 H2 m2 f2 S2 r2 => q v2 H2 m2 (f1.trans f2) S2 r2) fun _ _ q => okX.tr f1 q⟩
/-! ### displays -/
theorem allD_rp {vs : List V} {ws : List Wv} {ds : List PyData} (r : RWs X.K H m st.length vs ws) (e : allD ws = some ds) : RpA X.K H (Off m st.length) vs ds := by
  induction r generalizing ds with
  | nil => cases e; exact .nil
  | @cons v vs w ws r1 r2 ih =>
    cases w with
    | d x =>
      rw [allD_cons] at e
      cases q : allD ws with
      | none => rw [q] at e; cases e
      | some es =>
        rw [q] at e
        cases e
        exact .cons r1 (ih q)
    | r i => cases e
    | x a c d => cases e
theorem disp_post {f : List PyData → Rs Wv} {ws : List Wv} {Q : Wv → Sto → Prop} {R : Xc → Sto → Prop} (h : (match allD ws with | some ds => if ds.length ≤ 1000000 then f ds else .no | none => .no : Rs Wv).post Q R) :
    ∃ ds, allD ws = some ds ∧ ds.length ≤ 1000000 ∧ (f ds).post Q R := by
  split at h
  · split at h
    · exact ⟨_, by assumption, by assumption, h⟩
    · exact h.elim
  · exact h.elim
/-- how a new tuple is told: tracked, or (F) plain -/
def TupO (u : HO) (xs : List V) : Prop := (Wtp.F = false ∧ u = .tup xs) ∨ (Wtp.F = true ∧ ∃ ob : Obj, u = .frz ob (.tup xs) ∧ ob.dict = none)
theorem TupO.tp {K : Frg} {H : Hp} {a : Addr} {u : HO} {xs : List V} {ds : List PyData} (h : TupO u xs) (e : H a = some u) : TpAt K H a xs ds := by
  rcases h with ⟨z, rfl⟩ | ⟨z, ob, rfl, n⟩
  · exact .inl ⟨z, e⟩
  · exact .inr (.inr ⟨z, ob, e, n⟩)
theorem TupO.sq {K : Frg} {H : Hp} {a : Addr} {u : HO} {xs : List V} (h : TupO u xs) (e : H a = some u) : SqT K H a xs := by
  rcases h with ⟨z, rfl⟩ | ⟨z, ob, rfl, n⟩
  · exact .inl (.inl e)
  · exact .inl (.inr ⟨ob, e⟩)
theorem TupO.nK {u : HO} {xs : List V} (h : TupO u xs) : ∀ ks, u ≠ .dK ks := fun _ e => by
  subst e
  rcases h with ⟨_, z⟩ | ⟨_, _, z, _⟩ <;> cases z
theorem TupO.nT {u : HO} {xs : List V} (h : TupO u xs) : ∀ ks, u ≠ .dT ks := fun _ e => by
  subst e
  rcases h with ⟨_, z⟩ | ⟨_, _, z, _⟩ <;> cases z
theorem pe_tupF {es : List Expr} {t : TA} {j : Nat} (h : PA X es t) : PE X (.Tuple es j pos) (fun σ H Q => t σ H fun xs H1 => xs.length ≤ sizeLine ∧ ∀ (p : Addr) (u : HO), H1 p = none → TupO u xs → Q (.ref p) (upd H1 p u)) := by
  cases hF : Wtp.F with
  | false =>
    refine PE.imp (pe_tup h) fun σ H Q q => ?_
    have e : (fun (xs : List V) (H1 : Hp) => xs.length ≤ sizeLine ∧ ∀ (p : Addr) (u : HO), H1 p = none → TupO u xs → Q (.ref p) (upd H1 p u)) = fun xs H1 => xs.length ≤ sizeLine ∧ ∀ p, H1 p = none → Q (.ref p) (upd H1 p (.tup xs)) := by
      funext xs H1
      refine propext ⟨fun ⟨z, q⟩ => ⟨z, fun p hn => q p _ hn (.inl ⟨hF, rfl⟩)⟩, fun ⟨z, q⟩ => ⟨z, fun p u hn hu => ?_⟩⟩
      rcases hu with ⟨_, rfl⟩ | ⟨z, _⟩
      · exact q p hn
      · rw [hF] at z; cases z
    rw [e] at q
    exact q
  | true =>
    refine PE.imp (pe_tupN h) fun σ H Q q => ?_
    have e : (fun (xs : List V) (H1 : Hp) => xs.length ≤ sizeLine ∧ ∀ (p : Addr) (u : HO), H1 p = none → TupO u xs → Q (.ref p) (upd H1 p u)) = fun xs H1 => xs.length ≤ sizeLine ∧ NewT H1 Q xs := by
      funext xs H1
      refine propext ⟨fun ⟨z, q⟩ => ⟨z, fun p ob hn no => q p _ hn (.inr ⟨hF, ob, rfl, no⟩)⟩, fun ⟨z, q⟩ => ⟨z, fun p u hn hu => ?_⟩⟩
      rcases hu with ⟨z, _⟩ | ⟨_, ob, rfl, no⟩
      · rw [hF] at z; cases z
      · exact q p ob hn no
    rw [e] at q
    exact q
theorem de_tup {es : List Expr} {cs : En → Sto → Rs (List Wv)} {x1} (ha : DA X es cs) : DE X (.Tuple es x1 pos) (eTup cs) := by
  refine ⟨fun W tk => PE.imp (pe_tupF (ha.pa W tk)) fun σ H Q ⟨m, env, st, S, R, hp⟩ => ?_⟩
  unfold eTup at hp
  rw [Rs.post_bind] at hp
  refine ⟨m, env, st, S, R, Rs.post_mono hp (fun ws st1 q vs H1 m1 f1 S1 r1 => ?_) fun _ _ q => q⟩
  obtain ⟨ds, e1, e2, q⟩ := disp_post (f := fun ds => .ok (.d (.tuple ds)) st1) q
  have ra := allD_rp r1 e1
  refine ⟨by rw [ra.len]; exact Nat.le_trans e2 line_lim, fun p u hn hu => ?_⟩
  have g := grow_upd (o := u) hn
  exact q _ _ m1 (f1.trans (.same g)) (S1.grow g) (.tup (hu.tp upd_same) (ra.mv (Fol.same (m := m1) (n := st1.length) g).kp))
theorem de_lst {es : List Expr} {cs : En → Sto → Rs (List Wv)} (ha : DA X es cs) : DE X (.List es pos) (eLst cs) := by
  refine ⟨fun W tk => PE.imp (pe_lst (ha.pa W tk)) fun σ H Q ⟨m, env, st, S, R, hp⟩ => ?_⟩
  unfold eLst at hp
  rw [Rs.post_bind] at hp
  refine ⟨m, env, st, S, R, Rs.post_mono hp (fun ws st1 q vs H1 m1 f1 S1 r1 => ?_) fun _ _ q => q⟩
  obtain ⟨ds, e1, e2, q⟩ := disp_post (f := fun ds => .ok (.d (.list ds)) st1) q
  have ra := allD_rp r1 e1
  refine ⟨by rw [ra.len]; exact Nat.le_trans e2 line_lim, fun p hn => ?_⟩
  have g := grow_upd (o := .lst vs) hn
  exact q _ _ m1 (f1.trans (.same g)) (S1.grow g) (.lst (.inl ⟨upd_same, S1.fresh hn⟩) (ra.mv (Fol.same (m := m1) (n := st1.length) g).kp))
/-- a new object of the store -/
def mup (m : Mp) (n : Nat) (p : Addr) : Mp := ⟨fun i => if i = n then p else m.ix i, m.F⟩
theorem mup_old {n : Nat} {p : Addr} {i : Nat} (h : i < n) : (mup m n p).ix i = m.ix i := if_neg (by omega)
theorem mup_new {n : Nat} {p : Addr} : (mup m n p).ix n = p := if_pos rfl
theorem fol_new {n : Nat} {p : Addr} {o : HO} (hn : H p = none) : Fol m n H (mup m n p) (n + 1) (upd H p o) where
  tup a xs h := grow_upd hn a _ h
  frz a u x h := grow_upd hn a _ h
  rest a u _ h _ := grow_upd hn a _ h
  old i hi := mup_old hi
  new i h1 h2 := by
    have e : i = n := by omega
    rw [e, mup_new]
    exact nn_no hn
  le := Nat.le_succ n
  dom := domOf (grow_upd hn)
  eF _ _ := Iff.rfl
theorem Sim.new {K : Frg} {H : Hp} {m : Mp} {st : Sto} {p : Addr} {o : HO} {ob : Ob} (S : Sim K H m st) (hn : H p = none) (h : ObAt K (upd H p o) (mup m st.length p) (st.length + 1) p ob) : Sim K (upd H p o) (mup m st.length p) (st ++ [ob]) := by
  have f : Fol m st.length H (mup m st.length p) (st.length + 1) (upd H p o) := fol_new hn
  have hl : (st ++ [ob]).length = st.length + 1 := by simp
  refine ⟨fun i u e => ?_, fun i j hi hj e => ?_, fun a z => f.dom a (S.ff a z), fun i hi => ?_, S.tb.ext (grow_upd hn)⟩
  · rw [hl]
    by_cases q : i < st.length
    · rw [List.getElem?_append_left q] at e
      rw [mup_old q]
      exact (S.ob i u e).mv f fun x => grow_upd hn _ x
    · have e2 : i = st.length := by
        have := (List.getElem?_eq_some_iff.mp e).1
        rw [hl] at this
        omega
      subst e2
      simp at e
      subst e
      rw [mup_new]
      exact h
  · rw [hl] at hi hj
    have key : ∀ x, x < st.length → (mup m st.length p).ix x ≠ p := fun x hx z => by
      rw [mup_old hx] at z
      exact nn_no hn (z ▸ S.there hx)
    by_cases h1 : i < st.length
    · by_cases h2 : j < st.length
      · rw [mup_old h1, mup_old h2] at e
        exact S.inj i j h1 h2 e
      · have : j = st.length := by omega
        subst this
        rw [mup_new] at e
        exact absurd e (key i h1)
    · have : i = st.length := by omega
      subst this
      by_cases h2 : j < st.length
      · rw [mup_new] at e
        exact absurd e.symm (key j h2)
      · omega
  · rw [hl] at hi
    by_cases q : i < st.length
    · rw [mup_old q]; exact S.fi i q
    · have : i = st.length := by omega
      subst this
      rw [mup_new]
      exact fun z => nn_no hn (S.ff p z)
theorem de_newl {es : List Expr} {cs : En → Sto → Rs (List Wv)} (ha : DA X es cs) : DE X (.List es pos) (eNewL cs) := by
  refine ⟨fun W tk => PE.imp (pe_lst (ha.pa W tk)) fun σ H Q ⟨m, env, st, S, R, hp⟩ => ?_⟩
  unfold eNewL at hp
  rw [Rs.post_bind] at hp
  refine ⟨m, env, st, S, R, Rs.post_mono hp (fun ws st1 q vs H1 m1 f1 S1 r1 => ?_) fun _ _ q => q⟩
  obtain ⟨ds, e1, e2, q⟩ := disp_post (f := fun ds => .ok (.r st1.length) (st1 ++ [.lst ds])) q
  have ra := allD_rp r1 e1
  refine ⟨by rw [ra.len]; exact Nat.le_trans e2 line_lim, fun p hn => ?_⟩
  have f2 : Fol m1 st1.length H1 (mup m1 st1.length p) (st1.length + 1) (upd H1 p (.lst vs)) := fol_new hn
  have hl : (st1 ++ [Ob.lst ds]).length = st1.length + 1 := by simp
  refine q _ _ _ ?_ (S1.new hn ⟨vs, upd_same, ra.mv f2.kp⟩) ?_
  · rw [hl]; exact f1.trans f2
  · rw [hl]; exact ⟨Nat.lt_succ_self _, by rw [mup_new]⟩
theorem de_newd : DE X (.Dict [] [] pos) eNewD := by
  refine ⟨fun W tk => PE.imp pe_dnewK fun σ H Q ⟨m, env, st, S, R, hp⟩ => ?_⟩
  refine fun p hn => ?_
  have f2 : Fol m st.length H (mup m st.length p) (st.length + 1) (upd H p (.dK [])) := fol_new hn
  have hl : (st ++ [Ob.dct []]).length = st.length + 1 := by simp
  refine hp _ _ (mup m st.length p) ?_ (S.new hn ⟨[], upd_same, .nil⟩) ?_
  · rw [hl]; exact f2
  · rw [hl]; exact ⟨Nat.lt_succ_self _, by rw [mup_new]⟩
theorem de_newt : DE X (.Dict [] [] pos) eNewT := by
  refine ⟨fun W tk => PE.imp pe_dnewT fun σ H Q ⟨m, env, st, S, R, hp⟩ => ?_⟩
  refine fun p hn => ?_
  have f2 : Fol m st.length H (mup m st.length p) (st.length + 1) (upd H p (.dT [])) := fol_new hn
  have hl : (st ++ [Ob.dtt []]).length = st.length + 1 := by simp
  refine hp _ _ (mup m st.length p) ?_ (S.new hn ⟨[], upd_same, .nil⟩) ?_
  · rw [hl]; exact f2
  · rw [hl]; exact ⟨Nat.lt_succ_self _, by rw [mup_new]⟩
/-- a dict is pinned as it stands -/
theorem Inv.freeze {pins : List (Addr × Obj)} {σ : L2.St} {H : Hp} {s : Shared} {a : Addr} {u : HO} (I : Inv X pins σ H s) (h : H a = some u) (hu : (∃ ks, u = .dK ks) ∨ ∃ ks, u = .dT ks) : ∃ o, Inv X pins σ (upd H a (.frz o u)) s := by
  have ok : ObjOk X.prog X.w H s.heap a u := I.hok a u h
  obtain ⟨o, ho⟩ : ∃ o, s.heap.get? a = some o := by
    rcases hu with ⟨ks, rfl⟩ | ⟨ks, rfl⟩
    · obtain ⟨_, _, _, _, o, _, _, ho, _⟩ := (show ObjOk X.prog X.w H s.heap a (.dK ks) from ok)
      exact ⟨o, ho⟩
    · obtain ⟨_, _, _, _, o, _, _, ho, _⟩ := (show ObjOk X.prog X.w H s.heap a (.dT ks) from ok)
      exact ⟨o, ho⟩
  refine ⟨o, I.write (t' := s.toks) (x := a) (e := a) (h' := s.heap) (by rw [h]; rcases hu with ⟨ks, rfl⟩ | ⟨ks, rfl⟩ <;> exact True.intro) (.inl rfl) (fun _ _ _ q => q) ⟨o, ho⟩ ⟨ho, ?_⟩⟩
  rcases hu with ⟨ks, rfl⟩ | ⟨ks, rfl⟩
  · exact ok
  · obtain ⟨h1, h2, xs, h3, h4⟩ := (show ObjOk X.prog X.w H s.heap a (.dT ks) from ok)
    refine ⟨h1, h2, xs, ?_, h4⟩
    refine Paired.mono (fun p q z => ⟨z.1, ?_, z.2.2⟩) h3
    rw [upd_ne (fun e => by rw [e, h] at z; exact nomatch Option.some.inj z.2.1)]
    exact z.2.1
/-- a list is pinned as it stands -/
theorem Inv.freezeL {pins : List (Addr × Obj)} {σ : L2.St} {H : Hp} {s : Shared} {a : Addr} {xs : List V} (I : Inv X pins σ H s) (h : H a = some (.lst xs)) : ∃ o, Inv X pins σ (upd H a (.frz o (.lst xs))) s := by
  have ok : ObjOk X.prog X.w H s.heap a (.lst xs) := I.hok a _ h
  obtain ⟨_, _, _, _, ho⟩ := (show ObjOk X.prog X.w H s.heap a (.lst xs) from ok)
  exact ⟨_, I.write (t' := s.toks) (x := a) (e := a) (h' := s.heap) (by rw [h]; exact True.intro) (.inl rfl) (fun _ _ _ q => q) ⟨_, ho⟩ ⟨ho, ok⟩⟩
end
end
section
variable [Wtp] [Tbl]
section
variable {X : Cx} {pins : List (Addr × Obj)} {σ : L2.St} {H : Hp} {s : Shared}
/-! ## arithmetic -/
def bigOk (i j : Int) : Bool := decide (i.natAbs < 18446744073709551616) || decide (j.natAbs < 18446744073709551616)
def addD : PyData → PyData → Option PyData
  | .int i, .int j => some (.int (i + j))
  | .str x, .str y => if x.length + y.length ≤ 1000000 then some (.str (x ++ y)) else none
  | .tuple xs, .tuple ys => if xs.length + ys.length ≤ 1000000 then some (.tuple (xs ++ ys)) else none
  | .list xs, .list ys => if xs.length + ys.length ≤ 1000000 then some (.list (xs ++ ys)) else none
  | _, _ => none
def subD : PyData → PyData → Option PyData
  | .int i, .int j => some (.int (i - j))
  | _, _ => none
def mulD : PyData → PyData → Option PyData
  | .int i, .int j => if bigOk i j then some (.int (i * j)) else none
  | .tuple xs, .int k => if k = 1 then some (.tuple xs) else if 2 ≤ k ∧ k ≤ 1000 ∧ xs.length ≤ 1000 ∧ xs ≠ [] then some (.tuple (List.replicate k.toNat xs).flatten) else if xs = [] ∧ 0 ≤ k ∧ k ≤ 1000 then some (.tuple []) else none
  | .list xs, .int k => if 0 ≤ k ∧ k ≤ 1000 ∧ xs.length ≤ 1000 then some (.list (List.replicate k.toNat xs).flatten) else none
  | _, _ => none
def divD : PyData → PyData → Option PyData
  | .int i, .int j => if 0 < j ∧ j < 1073741824 then some (.int (i / j)) else if 0 < j ∧ j < 1606938044258990275541962092341162602522202993782792835301376 then some (.int (i / j)) else none
  | _, _ => none
def modD : PyData → PyData → Option PyData
  | .int i, .int j => if 0 < j then some (.int (i % j)) else none
  | _, _ => none
def powD : PyData → PyData → Option PyData
  | .int i, .int j => if 0 ≤ j ∧ j ≤ 1000 ∧ i.natAbs < 18446744073709551616 then some (.int (i ^ j.toNat)) else none
  | _, _ => none
def negD : PyData → Option PyData
  | .int i => some (.int (-i))
  | _ => none
theorem rout_here {Z : Addr → Prop} {r : PyData} {Q : VK} {v : V} (h : rOut X.K H Z r Q) (q : Rp X.K H Z v r) : Q v H := h v H (fun _ _ e => e) q
theorem rout_lst {Z : Addr → Prop} {ds : List PyData} {vs : List V} {Q : VK} (hz : ∀ a, H a = none → Z a) (h : rOut X.K H Z (.list ds) Q) (q : RpA X.K H Z vs ds) : ∀ p, H p = none → Q (.ref p) (upd H p (.lst vs)) := fun p hn =>
  h _ _ (grow_upd hn) (.lst (.inl ⟨upd_same, hz p hn⟩) (q.mv ⟨fun a xs e => grow_upd hn a _ e, fun a o u e => grow_upd hn a _ e, fun a o _ e z => ⟨grow_upd hn a _ e, z⟩⟩))
theorem rout_tup (hF : Wtp.F = false) {Z : Addr → Prop} {ds : List PyData} {vs : List V} {Q : VK} (h : rOut X.K H Z (.tuple ds) Q) (q : RpA X.K H Z vs ds) : ∀ p, H p = none → Q (.ref p) (upd H p (.tup vs)) := fun p hn =>
  h _ _ (grow_upd hn) (.tup (.inl ⟨hF, upd_same⟩) (q.mv ⟨fun a xs e => grow_upd hn a _ e, fun a o u e => grow_upd hn a _ e, fun a o _ e z => ⟨grow_upd hn a _ e, z⟩⟩))
theorem rout_new (hF : Wtp.F = true) {Z : Addr → Prop} {ds : List PyData} {vs : List V} {Q : VK} (h : rOut X.K H Z (.tuple ds) Q) (q : RpA X.K H Z vs ds) : NewT H Q vs := fun p ob hn no =>
  h _ _ (grow_upd hn) (.tup (.inr (.inr ⟨hF, ob, upd_same, no⟩)) (q.mv ⟨fun a xs e => grow_upd hn a _ e, fun a o u e => grow_upd hn a _ e, fun a o _ e z => ⟨grow_upd hn a _ e, z⟩⟩))
/-- list + list, whoever holds them -/
theorem op_catP : OpR X (binaryOp .Add) (fun x y H Q => ∃ l b xs zs, x = .ref l ∧ y = .ref b ∧ LsX X.K H l xs ∧ LsX X.K H b zs ∧ xs.length + zs.length ≤ sizeLine ∧ ∀ p, H p = none → Q (.ref p) (upd H p (.lst (xs ++ zs)))) := by
  intro pins s σ H x y v u Q I rx ry h
  obtain ⟨l, b, xs, zs, rfl, rfl, hH, hB, hz, q⟩ := h
  cases rx
  cases ry
  obtain ⟨its, n, r, e, _, l1⟩ := Inv.lsx I hH
  obtain ⟨its2, n2, r2, e2, _, l2⟩ := Inv.lsx I hB
  refine PySem.P.add_list e e2 ?_ (by rw [List.size_toArray, List.size_toArray]; omega)
  have ea : its.toArray ++ its2.toArray = (its ++ its2).toArray := by simp
  rw [ea]
  exact ⟨.ref _, _, I.lnew (t' := s.toks) (r.append r2) (by rw [List.length_append]; omega), rfl, q _ I.fresh⟩
theorem o_add : OpR X (binaryOp .Add) (rD X.K addD) := by
  intro pins s σ H x y v u Q I rx ry ⟨Z, d, e, r, hz, hd, he, hf, ho⟩
  unfold addD at hf
  split at hf
  · cases hf
    exact op_add pins s σ H x y v u Q I rx ry ⟨_, _, hd.int, he.int, rout_here ho (.int _)⟩
  · split at hf
    · cases hf
      exact op_add_str pins s σ H x y v u Q I rx ry ⟨_, _, hd.str, he.str, Nat.le_trans (by assumption) line_lim, rout_here ho (.str _)⟩
    · cases hf
  · split at hf
    · cases hf
      obtain ⟨a, vs, rfl, h1, h2⟩ := hd.tupT
      obtain ⟨b, ws, rfl, k1, k2⟩ := he.tupT
      have l1 := h2.len
      have l2 := k2.len
      have le : vs.length + ws.length ≤ sizeLine := Nat.le_trans (by omega) line_lim
      have left : vs = [] → Q (.ref b) H := fun e => by
        subst e
        cases h2
        exact rout_here ho (.tup k1 k2)
      have right : ws = [] → Q (.ref a) H := fun e => by
        subst e
        cases k2
        rw [List.append_nil] at ho
        exact rout_here ho (.tup h1 h2)
      cases hF : Wtp.F with
      | false => exact op_catA pins s σ H _ _ v u Q I rx ry ⟨a, b, vs, ws, rfl, rfl, h1.sq, k1.sq, le, left, fun _ => right, fun _ _ => rout_tup hF ho (h2.app k2)⟩
      | true => exact op_catN pins s σ H _ _ v u Q I rx ry ⟨a, b, vs, ws, rfl, rfl, h1.sq, k1.sq, le, left, fun _ => right, fun _ _ => rout_new hF ho (h2.app k2)⟩
    · cases hf
  · split at hf
    · cases hf
      obtain ⟨a, vs, rfl, h1, h2⟩ := hd.lst
      obtain ⟨b, ws, rfl, k1, k2⟩ := he.lst
      have l1 := h2.len
      have l2 := k2.len
      exact op_catP pins s σ H _ _ v u Q I rx ry ⟨a, b, vs, ws, rfl, rfl, h1, k1, Nat.le_trans (by omega) line_lim, rout_lst hz ho (h2.app k2)⟩
    · cases hf
  · cases hf
theorem o_sub : OpR X (binaryOp .Sub) (rD X.K subD) := by
  intro pins s σ H x y v u Q I rx ry ⟨Z, d, e, r, hz, hd, he, hf, ho⟩
  unfold subD at hf
  split at hf
  · cases hf
    exact op_sub pins s σ H x y v u Q I rx ry ⟨_, _, hd.int, he.int, rout_here ho (.int _)⟩
  · cases hf
theorem cmul_of {i j : Int} (h : bigOk i j = true) : CMul i j := by
  unfold bigOk at h
  rw [Bool.or_eq_true, decide_eq_true_eq, decide_eq_true_eq] at h
  rcases h with h | h
  · exact .inl ⟨by omega, by omega⟩
  · exact .inr ⟨by omega, by omega⟩
theorem RpA.rep {K : Frg} {H : Hp} {Z : Addr → Prop} {vs : List V} {ds : List PyData} (h : RpA K H Z vs ds) : ∀ n : Nat, RpA K H Z (List.replicate n vs).flatten (List.replicate n ds).flatten
  | 0 => .nil
  | n + 1 => by
    rw [List.replicate_succ, List.replicate_succ, List.flatten_cons, List.flatten_cons]
    exact h.app (RpA.rep h n)
/-- list * int, whoever holds it -/
theorem op_repP : OpR X (binaryOp .Mult) (fun x y H Q => ∃ l k xs, x = .ref l ∧ y = .int k ∧ LsX X.K H l xs ∧ 0 ≤ k ∧ k ≤ 1000 ∧ xs.length ≤ 1000 ∧ ∀ p, H p = none → Q (.ref p) (upd H p (.lst (List.replicate k.toNat xs).flatten))) := by
  intro pins s σ H x y v u Q I rx ry h
  obtain ⟨l, k, xs, rfl, rfl, hH, h1, h2, hl, q⟩ := h
  cases rx
  obtain ⟨t, rfl⟩ := ry
  obtain ⟨its, n, r, e, _, l1⟩ := Inv.lsx I hH
  have line := line_lim
  have small : its.toArray.size * k.toNat ≤ 1000000 := by
    rw [List.size_toArray]
    exact Nat.le_trans (Nat.mul_le_mul (show its.length ≤ 1000 by omega) (show k.toNat ≤ 1000 by omega)) (by decide)
  have c1 : ¬ its.toArray.size * k.toNat > (2 ^ 63 - 1) / 8 := by omega
  have c2 : ¬ (!Builtin.List.listFitsIndex k) = true := by
    rw [fitsIndex_both (by omega) (by omega)]
    exact Bool.false_ne_true
  have c3 : ¬ Builtin.List.listTooLong (its.toArray.size * k.toNat) = true := by
    rw [notLongL (by omega)]
    exact Bool.false_ne_true
  have made : List.foldl (fun a b => a ++ b) #[] (List.replicate (if its.toArray.isEmpty = true then 0 else k.toNat) its.toArray) = (List.replicate k.toNat its).flatten.toArray := by
    rw [size_rep]
    cases its with
    | nil => simp
    | cons a r' => rw [if_neg (by simp)]
  have big : (List.replicate k.toNat xs).flatten.length ≤ sizeLine := by
    rw [PyProof.Rows.lm_len_rep_flat]
    exact Nat.le_trans (Nat.mul_le_mul (show k.toNat ≤ 1000 by omega) hl) (Nat.le_trans (by decide) line)
  refine wpAny_binaryOp_repeat_ref (T := "list") (U := "int") (by decide) ⟨_, e, rfl⟩ (fun s' => typeIs_int s' k t) noFill_list_mul F.fills_int_mul F.slot_int_rmul repeat_list F.slot_int_index.lookup ?_
  refine call_meets F.slot_int_rmul (typeIs_int s k t) F.entry_int_rmul (F.args_int_rmul_2 _ _) (int___rmul___int_list k t l its.toArray n) ⟨e, rfl, ⟨_, e, rfl⟩, ?_⟩
  refine call_meets F.slot_list_mul ⟨_, e, rfl⟩ F.entry_list_mul (F.args_list_mul_2 _ _) (AutoListH.list___mul___list_int_3 l its.toArray n k t c2 c1 c3) ⟨e, ?_⟩
  rw [made]
  exact ⟨.ref _, _, I.lnew (t' := s.toks) (r.rep k.toNat) big, rfl, q _ I.fresh⟩
theorem tuple_mulS (l : Addr) (items : Array Value) (n : Nat) (dd : Option Addr) (sl : Array (Option Value)) (x : Int) (u : Tok) (c0 : (decide (x < -(2 ^ 63)) || decide (x ≥ 2 ^ 63)) = false) (c1 : (items.isEmpty || x == 1) = true) :
    Meets (Builtin.«tuple.__mul__» ⟨[.ref l, .int x u], []⟩) (fun _ R s => s.heap.get? l = some { cls := .type "tuple", dict := dd, data := .seq items n, slots := sl } ∧ R (.ok (.ret (Value.ref l))) s) :=
  .of_wp fun prog w A R s h => by
    obtain ⟨hp, g, d, tk, os⟩ := s
    obtain ⟨hl, h⟩ := h
    have f1 := AutoSeq1.idx_int
    wp_walk using wpAny_loadPart' hl
    repeat (first
      | (refine wpAny_ite_false (decide_eq_false (by rw [c0]; exact Bool.false_ne_true)) ?_; wp_walk using wpAny_loadPart' hl)
      | (refine wpAny_ite_false (decide_eq_false (by decide)) ?_; wp_walk using wpAny_loadPart' hl)
      | (refine wpAny_ite_true c1 ?_; wp_walk using wpAny_loadPart' hl))
    exact ⟨_, rfl, h⟩
theorem op_repT1 : OpR X (binaryOp .Mult) (fun x y H Q => ∃ l k xs, x = .ref l ∧ y = .int k ∧ SqT X.K H l xs ∧ (k = 1 ∨ xs = []) ∧ 0 ≤ k ∧ k ≤ 1000 ∧ Q (.ref l) H) := by
  intro pins s σ H x y v u Q I rx ry h
  obtain ⟨l, k, xs, rfl, rfl, hT, hk, k0, k1, q⟩ := h
  cases rx
  obtain ⟨t, rfl⟩ := ry
  obtain ⟨its, r, ⟨⟨cls, dd, data, sl⟩, ho, hc, n, hd⟩, hs⟩ := I.tuple hT
  simp only at hc hd
  subst hc hd
  have c1 : (its.toArray.isEmpty || k == 1) = true := by
    rcases hk with rfl | rfl
    · simp
    · cases r
      simp
  have c0 : (decide (k < -(2 ^ 63)) || decide (k ≥ 2 ^ 63)) = false := by
    rw [Bool.or_eq_false_iff]
    exact ⟨decide_eq_false (by omega), decide_eq_false (by omega)⟩
  refine wpAny_binaryOp_repeat_ref (T := "tuple") (U := "int") (by decide) ⟨_, ho, rfl⟩ (fun s' => typeIs_int s' k t) noFill_tuple_mul F.fills_int_mul F.slot_int_rmul repeat_tuple F.slot_int_index.lookup
    (call_meets F.slot_int_rmul (typeIs_int s k t) F.entry_int_rmul (F.args_int_rmul_2 _ _) (int_rmul_tuple k t l its.toArray n dd sl)
      ⟨ho, rfl, ⟨_, ho, rfl⟩, call_meets F.slot_tuple_mul ⟨_, ho, rfl⟩ F.entry_tuple_mul (F.args_tuple_mul_2 _ _) (tuple_mulS l its.toArray n dd sl k t c0 c1) ⟨ho, ?_⟩⟩)
  exact ⟨.ref l, H, I, rfl, q⟩
theorem o_mul : OpR X (binaryOp .Mult) (rD X.K mulD) := by
  intro pins s σ H x y v u Q I rx ry ⟨Z, d, e, r, hz, hd, he, hf, ho⟩
  unfold mulD at hf
  split at hf
  · split at hf
    · cases hf
      exact op_mul pins s σ H x y v u Q I rx ry ⟨_, _, hd.int, he.int, cmul_of (by assumption), rout_here ho (.int _)⟩
    · cases hf
  · split at hf
    · rename_i h
      cases hf
      subst h
      have ey := he.int
      subst ey
      obtain ⟨a, vs, rfl, h1, h2⟩ := hd.tupT
      exact op_repT1 pins s σ H _ _ v u Q I rx ry ⟨a, 1, vs, rfl, rfl, h1.sq, .inl rfl, by decide, by decide, rout_here ho (.tup h1 h2)⟩
    rename_i hk1
    split at hf
    · rename_i h
      cases hf
      obtain ⟨a, vs, rfl, h1, h2⟩ := hd.tup
      have l1 := h2.len
      have ne : vs ≠ [] := fun e => by
        subst e
        cases h2
        exact h.2.2.2 rfl
      cases hF : Wtp.F with
      | false => exact op_repT pins s σ H _ _ v u Q I rx ry ⟨a, _, vs, rfl, he.int, h1, ne, h.1, h.2.1, by omega, rout_tup hF ho (h2.rep _)⟩
      | true => exact op_repN pins s σ H _ _ v u Q I rx ry ⟨a, _, vs, rfl, he.int, h1, ne, h.1, h.2.1, by omega, rout_new hF ho (h2.rep _)⟩
    rename_i hk2
    split at hf
    · rename_i h
      cases hf
      have ey := he.int
      subst ey
      obtain ⟨rfl, h0, h9⟩ := h
      obtain ⟨a, vs, rfl, h1, h2⟩ := hd.tupT
      have ev : vs = [] := by cases h2; rfl
      exact op_repT1 pins s σ H _ _ v u Q I rx ry ⟨a, _, vs, rfl, rfl, h1.sq, .inr ev, h0, h9, rout_here ho (.tup h1 h2)⟩
    · cases hf
  · split at hf
    · rename_i h
      cases hf
      obtain ⟨a, vs, rfl, h1, h2⟩ := hd.lst
      have l1 := h2.len
      exact op_repP pins s σ H _ _ v u Q I rx ry ⟨a, _, vs, rfl, he.int, h1, h.1, h.2.1, by omega, rout_lst hz ho (h2.rep _)⟩
    · cases hf
  · cases hf
theorem op_fdivW : OpR X (binaryOp .FloorDiv) (rI (fun _ j => 0 < j ∧ j < 1606938044258990275541962092341162602522202993782792835301376) fun i j => .int (i / j)) := opI fun i j _ _ _ _ _ hc q => by
  have h1 : (0 : Int) < j := hc.1
  have h2 : j < 1606938044258990275541962092341162602522202993782792835301376 := hc.2
  have h3 : j.natAbs.log2 < 9000 := Nat.lt_of_lt_of_le ((Nat.log2_lt (by omega)).mpr (show j.natAbs < 2 ^ 200 by omega)) (by decide)
  exact floordiv_int (by omega) (by rw [Int.fdiv_eq_ediv_of_nonneg i (by omega)]; exact q) (.inl (PyProof.noPylong_of_log2 h3))
theorem o_div : OpR X (binaryOp .FloorDiv) (rD X.K divD) := by
  intro pins s σ H x y v u Q I rx ry ⟨Z, d, e, r, hz, hd, he, hf, ho⟩
  unfold divD at hf
  split at hf
  · split at hf
    · cases hf
      exact op_fdiv pins s σ H x y v u Q I rx ry ⟨_, _, hd.int, he.int, by assumption, rout_here ho (.int _)⟩
    · split at hf
      · cases hf
        exact op_fdivW pins s σ H x y v u Q I rx ry ⟨_, _, hd.int, he.int, by assumption, rout_here ho (.int _)⟩
      · cases hf
  · cases hf
theorem divD_ok {i j : Int} (h : 0 < j) (h2 : j < 1606938044258990275541962092341162602522202993782792835301376) : divD (.int i) (.int j) = some (.int (i / j)) := by
  show (if 0 < j ∧ j < 1073741824 then some (PyData.int (i / j)) else if 0 < j ∧ j < 1606938044258990275541962092341162602522202993782792835301376 then some (.int (i / j)) else none) = _
  by_cases q : j < 1073741824
  · rw [if_pos ⟨h, q⟩]
  · rw [if_neg (fun z => q z.2), if_pos ⟨h, h2⟩]
theorem o_mod : OpR X (binaryOp .Mod) (rD X.K modD) := by
  intro pins s σ H x y v u Q I rx ry ⟨Z, d, e, r, hz, hd, he, hf, ho⟩
  unfold modD at hf
  split at hf
  · split at hf
    · cases hf
      exact op_mod pins s σ H x y v u Q I rx ry ⟨_, _, hd.int, he.int, by assumption, rout_here ho (.int _)⟩
    · cases hf
  · cases hf
theorem o_pow : OpR X (binaryOp .Pow) (rD X.K powD) := by
  intro pins s σ H x y v u Q I rx ry ⟨Z, d, e, r, hz, hd, he, hf, ho⟩
  unfold powD at hf
  split at hf
  · split at hf
    · rename_i h
      cases hf
      exact op_pow pins s σ H x y v u Q I rx ry ⟨_, _, hd.int, he.int, ⟨h.1, by omega, by have := h.2.2; omega⟩, rout_here ho (.int _)⟩
    · cases hf
  · cases hf
end
end
section
variable [Wtp] [Tbl]
section
variable {X : Cx} {pins : List (Addr × Obj)} {σ : L2.St} {H : Hp} {s : Shared}
/-! ## comparisons -/
def cmpOk (a b : PyData) : Bool := a.plain && (b.plain && decide (min a.depth b.depth ≤ 40))
def eqD (a b : PyData) : Option PyData := if cmpOk a b then some (.bool (PyData.eqv a b)) else none
def neD (a b : PyData) : Option PyData := if cmpOk a b then some (.bool (!PyData.eqv a b)) else none
def isNone : PyData → Bool
  | .none => true
  | _ => false
def ltD' (a b : PyData) : Bool := PySem.W.alike a b && (!isNone a && decide (min a.depth b.depth ≤ 40))
def ltD : PyData → PyData → Option PyData
  | .int i, .int j => some (.bool (decide (i < j)))
  | a, b => if ltD' a b then some (.bool (PySem.W.dataLt a b)) else none
def gtD : PyData → PyData → Option PyData
  | .int i, .int j => some (.bool (decide (j < i)))
  | a, b => if ltD' a b then some (.bool (PySem.W.dataLt b a)) else none
def leD : PyData → PyData → Option PyData
  | .int i, .int j => some (.bool (decide (i ≤ j)))
  | a, b => if ltD' a b then some (.bool (!PySem.W.dataLt b a)) else none
def geD : PyData → PyData → Option PyData
  | .int i, .int j => some (.bool (decide (j ≤ i)))
  | a, b => if ltD' a b then some (.bool (!PySem.W.dataLt a b)) else none
def isND (a b : PyData) : Option PyData := if isNone b then some (.bool (isNone a)) else none
def ntND (a b : PyData) : Option PyData := if isNone b then some (.bool (!isNone a)) else none
theorem rout_bl {Z : Addr → Prop} {b : Bool} {Q : VK} {I : Inv X pins σ H s} (h : rOut X.K H Z (.bool b) Q) : EP X pins σ Q (.bool b) s := ⟨.bl b, H, I, rfl, rout_here h (.bl b)⟩
theorem room_eq {k n : Nat} {A : Around} (hr : L2H.RoomH k A) (h : n ≤ 60) : A.units + n < cLine := by have := hr.un; omega
theorem o_eq {k : Nat} (hr : L2H.RoomH k X.A) : OpR X (compareOp .Eq) (rD X.K eqD) := by
  intro pins s σ H x y v u Q I rx ry ⟨Z, d, e, r, hz, hd, he, hf, ho⟩
  unfold eqD at hf
  split at hf
  · rename_i h
    cases hf
    unfold cmpOk at h
    simp only [Bool.and_eq_true, decide_eq_true_eq] at h
    obtain ⟨as, r1⟩ := Inv.rt I hd rx
    obtain ⟨bs, r2⟩ := Inv.rt I he ry
    exact PySem.SeqAt.eq_plain r1 r2 h.1 h.2.1 (room_eq hr (by omega)) (rout_bl (I := I) ho)
  · cases hf
theorem o_ne {k : Nat} (hr : L2H.RoomH k X.A) : OpR X (compareOp .NotEq) (rD X.K neD) := by
  intro pins s σ H x y v u Q I rx ry ⟨Z, d, e, r, hz, hd, he, hf, ho⟩
  unfold neD at hf
  split at hf
  · rename_i h
    cases hf
    unfold cmpOk at h
    simp only [Bool.and_eq_true, decide_eq_true_eq] at h
    obtain ⟨as, r1⟩ := Inv.rt I hd rx
    obtain ⟨bs, r2⟩ := Inv.rt I he ry
    exact PySem.SeqAt.ne_plain r1 r2 h.1 h.2.1 (room_eq hr (by omega)) (rout_bl (I := I) ho)
  · cases hf
theorem ltD_of {a b : PyData} (h : ltD' a b = true) : PySem.W.alike a b = true ∧ a ≠ .none ∧ min a.depth b.depth ≤ 40 := by
  unfold ltD' at h
  simp only [Bool.and_eq_true, decide_eq_true_eq, Bool.not_eq_true'] at h
  refine ⟨h.1, fun e => ?_, h.2.2⟩
  subst e
  exact absurd h.2.1 (by decide)
theorem o_lt {k : Nat} (hr : L2H.RoomH k X.A) : OpR X (compareOp .Lt) (rD X.K ltD) := by
  intro pins s σ H x y v u Q I rx ry ⟨Z, d, e, r, hz, hd, he, hf, ho⟩
  unfold ltD at hf
  split at hf
  · cases hf
    exact op_lt pins s σ H x y v u Q I rx ry ⟨_, _, hd.int, he.int, rout_here ho (.bl _)⟩
  · split at hf
    · rename_i h
      cases hf
      obtain ⟨h1, h2, h3⟩ := ltD_of h
      obtain ⟨as, r1⟩ := Inv.rt I hd rx
      obtain ⟨bs, r2⟩ := Inv.rt I he ry
      exact PySem.W.lt_data r1 r2 h1 h2 (room_eq hr (by omega)) (rout_bl (I := I) ho)
    · cases hf
theorem o_gt {k : Nat} (hr : L2H.RoomH k X.A) : OpR X (compareOp .Gt) (rD X.K gtD) := by
  intro pins s σ H x y v u Q I rx ry ⟨Z, d, e, r, hz, hd, he, hf, ho⟩
  unfold gtD at hf
  split at hf
  · cases hf
    exact op_gt pins s σ H x y v u Q I rx ry ⟨_, _, hd.int, he.int, rout_here ho (.bl _)⟩
  · split at hf
    · rename_i h
      cases hf
      obtain ⟨h1, h2, h3⟩ := ltD_of h
      obtain ⟨as, r1⟩ := Inv.rt I hd rx
      obtain ⟨bs, r2⟩ := Inv.rt I he ry
      exact PySem.W.gt_data r1 r2 h1 h2 (room_eq hr (by omega)) (rout_bl (I := I) ho)
    · cases hf
theorem o_le {k : Nat} (hr : L2H.RoomH k X.A) : OpR X (compareOp .LtE) (rD X.K leD) := by
  intro pins s σ H x y v u Q I rx ry ⟨Z, d, e, r, hz, hd, he, hf, ho⟩
  unfold leD at hf
  split at hf
  · cases hf
    exact op_le pins s σ H x y v u Q I rx ry ⟨_, _, hd.int, he.int, rout_here ho (.bl _)⟩
  · split at hf
    · rename_i h
      cases hf
      obtain ⟨h1, h2, h3⟩ := ltD_of h
      obtain ⟨as, r1⟩ := Inv.rt I hd rx
      obtain ⟨bs, r2⟩ := Inv.rt I he ry
      exact PySem.W.le_data r1 r2 h1 h2 (room_eq hr (by omega)) (rout_bl (I := I) ho)
    · cases hf
theorem o_ge {k : Nat} (hr : L2H.RoomH k X.A) : OpR X (compareOp .GtE) (rD X.K geD) := by
  intro pins s σ H x y v u Q I rx ry ⟨Z, d, e, r, hz, hd, he, hf, ho⟩
  unfold geD at hf
  split at hf
  · cases hf
    exact op_ge pins s σ H x y v u Q I rx ry ⟨_, _, hd.int, he.int, rout_here ho (.bl _)⟩
  · split at hf
    · rename_i h
      cases hf
      obtain ⟨h1, h2, h3⟩ := ltD_of h
      obtain ⟨as, r1⟩ := Inv.rt I hd rx
      obtain ⟨bs, r2⟩ := Inv.rt I he ry
      exact PySem.W.ge_data r1 r2 h1 h2 (room_eq hr (by omega)) (rout_bl (I := I) ho)
    · cases hf
theorem isNone_v {Z : Addr → Prop} {x : V} {d : PyData} (h : RT X.K H Z x d) : decide (x = .non) = isNone d := by
  cases d with
  | none => rw [h.non]; rfl
  | bool b => rw [h.bl]; rfl
  | int i => rw [h.int]; rfl
  | str x => rw [h.str]; rfl
  | list xs => obtain ⟨a, vs, rfl, _⟩ := h.lst; rfl
  | tuple xs => obtain ⟨a, vs, rfl, _⟩ := h.tup; rfl
  | dict xs => obtain ⟨a, rfl, _⟩ := h.dic; rfl
theorem o_isN : OpR X (compareOp .Is) (rD X.K isND) := by
  intro pins s σ H x y v u Q I rx ry ⟨Z, d, e, r, hz, hd, he, hf, ho⟩
  unfold isND at hf
  split at hf
  · rename_i h
    cases hf
    have h2 := isNone_v he
    rw [h, decide_eq_true_eq] at h2
    exact op_isN pins s σ H x y v u Q I rx ry ⟨h2, by rw [isNone_v hd]; exact rout_here ho (.bl _)⟩
  · cases hf
theorem o_ntN : OpR X (compareOp .IsNot) (rD X.K ntND) := by
  intro pins s σ H x y v u Q I rx ry ⟨Z, d, e, r, hz, hd, he, hf, ho⟩
  unfold ntND at hf
  split at hf
  · rename_i h
    cases hf
    have h2 := isNone_v he
    rw [h, decide_eq_true_eq] at h2
    exact op_notN pins s σ H x y v u Q I rx ry ⟨h2, by rw [isNone_v hd]; exact rout_here ho (.bl _)⟩
  · cases hf
/-! ## in, not in -/
def inOk (d : PyData) (xs : List PyData) : Bool := d.plain && (PyData.plainAll xs && decide (min (PyData.depthAll xs) d.depth ≤ 40))
def hasKey (es : List (PyData × PyData)) (k : Key) : Bool := es.any fun e => decide (keyD e.1 = some k)
def kindK : List (PyData × PyData) → Bool
  | [] => true
  | (c, _) :: _ => (keyD c).isSome
def kindT : List (PyData × PyData) → Bool
  | [] => true
  | (c, _) :: _ => (tkD c).isSome
/-- a look-up of a tuple -/
def dLookT (es : List (PyData × PyData)) (k : List Key) : Option PyData := (es.find? fun e => decide (tkD e.1 = some k)).map (·.2)
def inB (d : PyData) : PyData → Option Bool
  | .list xs => if inOk d xs then some (xs.any fun y => PyData.eqv y d) else none
  | .tuple xs => if inOk d xs then some (xs.any fun y => PyData.eqv y d) else none
  | .dict es => match keyD d with
    | some k => if kindK es = true then some (hasKey es k) else none
    | none => match tkD d with
      | some ks => if kindT es = true then some (dLookT es ks).isSome else none
      | none => none
  | .str z => match d with
    | .str x => some (!(Builtin.Str.occurrences z x 0 z.length 1).isEmpty)
    | _ => none
  | _ => none
def niD (d c : PyData) : Option PyData := (inB d c).map fun b => .bool (!b)
theorem inOk_of {d : PyData} {xs : List PyData} (h : inOk d xs = true) : d.plain = true ∧ PyData.plainAll xs = true ∧ min (PyData.depthAll xs) d.depth ≤ 40 := by
  unfold inOk at h
  simp only [Bool.and_eq_true, decide_eq_true_eq] at h
  exact ⟨h.1, h.2.1, h.2.2⟩
theorem keyD_v {Z : Addr → Prop} {x : V} {d : PyData} {k : Key} (h : RT X.K H Z x d) (e : keyD d = some k) : x = kV k := by
  cases d with
  | int i => cases e; exact h.int
  | str y => cases e; exact h.str
  | _ => cases e
/-- a dict's look-up -/
def dLook (es : List (PyData × PyData)) (k : Key) : Option PyData := (es.find? fun e => decide (keyD e.1 = some k)).map (·.2)
theorem dLook_rp {Z : Addr → Prop} {ks : List (Key × V)} {es : List (PyData × PyData)} (k : Key) (h : RpK X.K H Z ks es) :
    (∃ v d, valV ks k = some v ∧ dLook es k = some d ∧ Rp X.K H Z v d) ∨ (valV ks k = none ∧ dLook es k = none) := by
  induction ks generalizing es with
  | nil => cases h; exact .inr ⟨rfl, rfl⟩
  | cons p ks ih =>
    cases h with
    | @cons k0 v _ c d es h0 h1 h2 =>
      by_cases e : k0 = k
      · refine .inl ⟨v, d, valV_pos e, ?_, h1⟩
        unfold dLook
        rw [List.find?_cons_of_pos (by rw [h0, e]; simp)]
        rfl
      · have e2 : dLook ((c, d) :: es) k = dLook es k := by
          unfold dLook
          rw [List.find?_cons_of_neg (by rw [h0]; simpa using e)]
        rw [valV_neg (p := (k0, v)) e, e2]
        exact ih h2
theorem hasKey_look (es : List (PyData × PyData)) (k : Key) : hasKey es k = (dLook es k).isSome := by
  unfold hasKey dLook
  rw [Option.isSome_map, List.isSome_find?]
theorem valV_has {Z : Addr → Prop} {ks : List (Key × V)} {es : List (PyData × PyData)} (k : Key) (h : RpK X.K H Z ks es) : (valV ks k).isSome = hasKey es k := by
  rw [hasKey_look]
  rcases dLook_rp k h with ⟨v, d, e1, e2, _⟩ | ⟨e1, e2⟩
  · rw [e1, e2]; rfl
  · rw [e1, e2]; rfl
theorem tkD_keyD {c : PyData} {k : List Key} (h : tkD c = some k) : keyD c = none := by cases c <;> first | rfl | cases h
theorem dLookT_rp {Z : Addr → Prop} {ks : List (List Key × V)} {es : List (PyData × PyData)} (k : List Key) (h : RpT X.K H Z ks es) :
    (∃ v d, valV ks k = some v ∧ dLookT es k = some d ∧ Rp X.K H Z v d) ∨ (valV ks k = none ∧ dLookT es k = none) := by
  induction ks generalizing es with
  | nil => cases h; exact .inr ⟨rfl, rfl⟩
  | cons p ks ih =>
    cases h with
    | @cons k0 v _ c d es h0 h1 h2 =>
      by_cases e : k0 = k
      · refine .inl ⟨v, d, valV_pos e, ?_, h1⟩
        unfold dLookT
        rw [List.find?_cons_of_pos (by rw [h0, e]; simp)]
        rfl
      · have e2 : dLookT ((c, d) :: es) k = dLookT es k := by
          unfold dLookT
          rw [List.find?_cons_of_neg (by rw [h0]; simpa using e)]
        rw [valV_neg (p := (k0, v)) e, e2]
        exact ih h2
theorem valV_hasT {Z : Addr → Prop} {ks : List (List Key × V)} {es : List (PyData × PyData)} (k : List Key) (h : RpT X.K H Z ks es) : (valV ks k).isSome = (dLookT es k).isSome := by
  rcases dLookT_rp k h with ⟨v, d, e1, e2, _⟩ | ⟨e1, e2⟩
  · rw [e1, e2]; rfl
  · rw [e1, e2]; rfl
theorem dLook_T {Z : Addr → Prop} {ks : List (List Key × V)} {es : List (PyData × PyData)} (k : Key) (h : RpT X.K H Z ks es) : dLook es k = none := by
  induction ks generalizing es with
  | nil => cases h; rfl
  | cons p ks ih =>
    cases h with
    | @cons k0 v _ c d es h0 h1 h2 =>
      unfold dLook
      rw [List.find?_cons_of_neg (by rw [tkD_keyD h0]; simp)]
      exact ih h2
theorem dLookT_K {Z : Addr → Prop} {ks : List (Key × V)} {es : List (PyData × PyData)} (k : List Key) (h : RpK X.K H Z ks es) : dLookT es k = none := by
  induction ks generalizing es with
  | nil => cases h; rfl
  | cons p ks ih =>
    cases h with
    | @cons k0 v _ c d es h0 h1 h2 =>
      have n : tkD c = none := by cases c <;> first | rfl | cases h0
      unfold dLookT
      rw [List.find?_cons_of_neg (by rw [n]; simp)]
      exact ih h2
/-- a key that is a tuple -/
theorem tkD_v {Z : Addr → Prop} {x : V} {d : PyData} {k : List Key} (h : RT X.K H Z x d) (e : tkD d = some k) : ∃ b, x = .ref b ∧ SqT X.K H b (k.map kV) := by
  cases d with
  | tuple ds =>
    obtain ⟨b, vs, rfl, h1, h2⟩ := h.tup
    have : ∀ {vs : List V} {ds : List PyData} {k : List Key}, RpA X.K H Z vs ds → keysD ds = some k → vs = k.map kV := by
      intro vs ds
      induction ds generalizing vs with
      | nil => intro k r e; cases e; cases r; rfl
      | cons d ds ih =>
        intro k r e
        unfold keysD at e
        split at e
        · rename_i k0 ks e1 e2
          cases e
          cases r with
          | cons r1 r2 => rw [List.map_cons, ih r2 e2, keyD_v (Z := Z) (.inl r1) e1]
        · cases e
    rw [this h2 (show keysD ds = some k from e)] at h1
    exact ⟨b, rfl, h1⟩
  | _ => cases e
theorem key_ofS (I : Inv X pins σ H s) {b : Addr} {ks : List Key} (h : SqT X.K H b (ks.map kV)) : (tupleKind (mixKind X.prog X.w)).is s.heap ks b := by
  obtain ⟨its, rv, ⟨o, ho, hc, n, hd⟩, _⟩ := I.tuple h
  exact ⟨o, its.toArray, n, ho, hc, hd, by simpa using items_are rv⟩
theorem dkT_k {Z : Addr → Prop} {a : Addr} {es : List (PyData × PyData)} (I : Inv X pins σ H s) (h : DkT X.K H Z a es) (hk : kindK es = true) : (a == sysModules) = false ∧ ∃ kvs vs, RpK X.K H Z kvs es ∧ KV kvs vs ∧ s.heap.DictOf (mixKind X.prog X.w) a vs := by
  rcases h with ⟨ks, h1, h2⟩ | ⟨ks, h1, h2⟩
  · obtain ⟨_, hd, vs, rel, dd⟩ := dk_rd I.hok h1
    exact ⟨hd, ks, vs, h2, rel, dd⟩
  · cases h2 with
    | nil =>
      obtain ⟨_, hd, xs, r, o, ents, ep, ho, hc, he, hl, _⟩ := (show ObjOk X.prog X.w H s.heap a (.dT []) from h1.ok I.hok)
      cases r
      have e0 : ents = #[] := by
        have : ents.toList = [] := hl
        simpa using this
      subst e0
      exact ⟨hd, [], [], .nil, .nil, o, #[], ep, ho, hc, he, fun e he2 => absurd he2 (by simp), .nil, List.nodup_nil⟩
    | @cons k v kvs c d es h0 _ _ =>
      have hk : (keyD c).isSome = true := hk
      rw [tkD_keyD h0] at hk
      cases hk
theorem dkT_t {Z : Addr → Prop} {a : Addr} {es : List (PyData × PyData)} (I : Inv X pins σ H s) (h : DkT X.K H Z a es) (hk : kindT es = true) : (a == sysModules) = false ∧ ∃ kvs xs, RpT X.K H Z kvs es ∧ KT H kvs xs ∧ s.heap.DictOfH (tupleKind (mixKind X.prog X.w)) a xs := by
  rcases h with ⟨ks, h1, h2⟩ | ⟨ks, h1, h2⟩
  · cases h2 with
    | nil =>
      obtain ⟨_, hd, vs, rel, o, ents, ep, ho, hc, he, _, hp, _⟩ := (show ObjOk X.prog X.w H s.heap a (.dK []) from h1.ok I.hok)
      cases rel
      have e0 : ents.toList = [] := by generalize ents.toList = l at hp; cases hp; rfl
      exact ⟨hd, [], [], .nil, .nil, o, ents, ep, ho, hc, he, e0, fun x hx => absurd hx List.not_mem_nil, List.nodup_nil⟩
    | @cons k v kvs c d es h0 _ _ =>
      have hk : (tkD c).isSome = true := hk
      have n : tkD c = none := by cases c <;> first | rfl | cases h0
      rw [n] at hk
      cases hk
  · obtain ⟨_, hd, xs, rel, dd⟩ := dt_rd I.hok h1
    exact ⟨hd, ks, xs, h2, rel, dd⟩
theorem o_ni {k : Nat} (hr : L2H.RoomH k X.A) : OpR X (compareOp .NotIn) (rD X.K niD) := by
  intro pins s σ H x y v u Q I rx ry ⟨Z, d, e, r, hz, hd, he, hf, ho⟩
  unfold niD at hf
  cases q : inB d e with
  | none => rw [q] at hf; cases hf
  | some b =>
    rw [q] at hf
    cases hf
    unfold inB at q
    split at q
    · split at q
      · rename_i h
        cases q
        obtain ⟨h1, h2, h3⟩ := inOk_of h
        obtain ⟨as, r1⟩ := Inv.rt I hd rx
        obtain ⟨bs, r2⟩ := Inv.rt I he ry
        exact PySem.SeqAt.notIn_list_data r2 r1 h2 h1 (by have := room_eq hr (show 60 ≤ 60 by decide); omega) (rout_bl (I := I) ho)
      · cases q
    · split at q
      · rename_i h
        cases q
        obtain ⟨h1, h2, h3⟩ := inOk_of h
        obtain ⟨as, r1⟩ := Inv.rt I hd rx
        obtain ⟨bs, r2⟩ := Inv.rt I he ry
        exact PySem.SeqAt.notIn_tuple_data r2 r1 h2 h1 (by have := room_eq hr (show 60 ≤ 60 by decide); omega) (rout_bl (I := I) ho)
      · cases q
    · split at q
      · rename_i kk hk
        split at q
        · rename_i kd
          cases q
          obtain ⟨a, rfl, h1⟩ := he.dic
          cases ry
          have e1 := keyD_v hd hk
          subst e1
          obtain ⟨hsm, kvs, vs, h2, rel, dd⟩ := dkT_k I h1 kd
          refine wpAny_notIn_of (kV_is rx) hsm dd.mapOf ?_
          rw [← (rel.val kk).isSome_eq, valV_has kk h2]
          exact ⟨.bl _, H, I.tok _, rfl, rout_here ho (.bl _)⟩
        · cases q
      · split at q
        · rename_i ks hk
          split at q
          · rename_i kd
            cases q
            obtain ⟨a, rfl, h1⟩ := he.dic
            cases ry
            obtain ⟨b, rfl, h3⟩ := tkD_v hd hk
            cases rx
            obtain ⟨hsm, kvs, xs, h2, rel, dd⟩ := dkT_t I h1 kd
            refine wpAny_notIn_heap (tupleKind_room_in1 (room_eq hr (show 1 ≤ 60 by decide))) (key_ofS I h3) hsm dd ?_
            have q := (rel.val ks).isSome_eq
            rw [Option.isSome_map] at q
            rw [← q, valV_hasT ks h2]
            exact ⟨.bl _, H, I.tok _, rfl, rout_here ho (.bl _)⟩
          · cases q
        · cases q
    · split at q
      · cases q
        exact op_notin_str pins s σ H x y v u Q I rx ry ⟨_, _, hd.str, he.str, rout_here ho (.bl _)⟩
      · cases q
    · cases q
/-! ## subscripts, slices -/
def atD {α : Type} (xs : List α) (i : Int) : Option α := (ixN xs.length i).bind fun j => xs[j]?
def ixD : PyData → PyData → Option PyData
  | .list xs, .int i => atD xs i
  | .tuple xs, .int i => atD xs i
  | .str z, .int i => if z.length ≤ 1000000 then (atD z.cps.toList i).map fun c => .str ⟨#[c]⟩ else none
  | .dict es, k => match keyD k with
    | some k => dLook es k
    | none => match tkD k with
      | some ks => dLookT es ks
      | none => none
  | _, _ => none
theorem atI_rp {Z : Addr → Prop} {vs : List V} {ds : List PyData} {i : Int} {d : PyData} (h : RpA X.K H Z vs ds) (e : atD ds i = some d) : ∃ v, atI vs i = some v ∧ Rp X.K H Z v d := by
  unfold atD at e
  rw [← h.len] at e
  unfold atI
  cases q : ixN vs.length i with
  | none => rw [q] at e; cases e
  | some j =>
    rw [q] at e
    exact h.get (i := j) e
theorem o_ix {k : Nat} (hr : L2H.RoomH k X.A) : IxR X (rD X.K ixD) := by
  intro val sli pins s σ H x y v u Q I rx ry ⟨Z, d, e, r, hz, hd, he, hf, ho⟩ hs
  unfold ixD at hf
  split at hf
  · obtain ⟨a, vs, rfl, h1, h2⟩ := hd.lst
    obtain ⟨w, hw, rw'⟩ := atI_rp h2 hf
    exact ix_list val sli pins s σ H _ y v u Q I rx ry ⟨a, vs, _, w, rfl, he.int, h1.sq, hw, rout_here ho rw'⟩ hs
  · obtain ⟨a, vs, rfl, h1, h2⟩ := hd.tup
    obtain ⟨w, hw, rw'⟩ := atI_rp h2 hf
    exact ix_tup val sli pins s σ H _ y v u Q I rx ry ⟨a, vs, _, w, rfl, he.int, h1, hw, rout_here ho rw'⟩ hs
  · split at hf
    · rename_i z i hl
      cases q : atD z.cps.toList i with
      | none => rw [q] at hf; cases hf
      | some c =>
        rw [q] at hf
        cases hf
        exact ix_str val sli pins s σ H x y v u Q I rx ry ⟨_, _, c, hd.str, he.int, Nat.le_trans hl line_lim, q, rout_here ho (.str _)⟩ hs
    · cases hf
  · split at hf
    · rename_i kk hk
      obtain ⟨a, rfl, h1⟩ := hd.dic
      cases rx
      have e1 := keyD_v he hk
      subst e1
      rcases h1 with ⟨ks, h1, h2⟩ | ⟨ks, h1, h2⟩
      · rcases dLook_rp kk h2 with ⟨w, d', e1, e2, rw'⟩ | ⟨e1, e2⟩
        · rw [e2] at hf
          cases hf
          have g : DGet H a (kV kk) (some w) := by rw [← e1]; exact .inl ⟨_, _, h1, rfl, rfl⟩
          exact tail_any (dict_typeIs I g) PySem.F.slot_dict_getitem.lookup (d_getItem (room_eq hr (show 1 ≤ 60 by decide)) I g ry fun w' s1 I1 r1 => ⟨w, H, I1, r1, rout_here ho rw'⟩) hs
        · rw [e2] at hf
          cases hf
      · rw [dLook_T kk h2] at hf
        cases hf
    · split at hf
      · rename_i kk hk
        obtain ⟨a, rfl, h1⟩ := hd.dic
        cases rx
        obtain ⟨b, rfl, h3⟩ := tkD_v he hk
        cases ry
        rcases h1 with ⟨ks, h1, h2⟩ | ⟨ks, h1, h2⟩
        · rw [dLookT_K kk h2] at hf
          cases hf
        · rcases dLookT_rp kk h2 with ⟨w, d', e1, e2, rw'⟩ | ⟨e1, e2⟩
          · rw [e2] at hf
            cases hf
            obtain ⟨_, _, xs, rel, dd⟩ := dt_rd I.hok h1
            obtain ⟨w', hw, rw2⟩ := RelO.some_of (v := w) (o := (atKey xs kk).map (·.2)) (by rw [← e1]; exact rel.val kk)
            obtain ⟨p, hp, hp2⟩ := Option.map_eq_some_iff.mp hw
            refine tail_any (dd.typeIs) PySem.F.slot_dict_getitem.lookup (wpAny_getItem_heap (tupleKind_room_in1 (room_eq hr (show 1 ≤ 60 by decide))) (key_ofS I h3) dd hp ?_) hs
            rw [hp2]
            exact ⟨w, H, I.tok _, rw2, rout_here ho rw'⟩
          · rw [e2] at hf
            cases hf
      · cases hf
  · cases hf
theorem de_ix {k : Nat} (hr : L2H.RoomH k X.A) {a b : Expr} {ca cb : En → Sto → Rs Wv} {pos : Pos} (ha : DE X a ca) (hb : DE X b cb) (hs : PlainIx b) : DE X (.Subscript a b pos) (eOp2 ixD ca cb) :=
  ⟨fun W tk => PE.imp (pe_ix (o_ix hr) (ha.pe W tk) (hb.pe W tk) hs) fun σ H Q => te_two ixD⟩
/-- a part of a slice -/
structure DO (X : Cx) (e : Option Expr) (c : En → Sto → Rs (Option Int)) : Prop where
  po : ∀ W, Takes X W → PO X e fun σ H Q => ∃ m env st, Sim X.K H m st ∧ EnvR X.K H m st.length env σ ∧ (c env st).post (fun i st' => ∀ H' m', Fol m st.length H m' st'.length H' → Sim X.K H' m' st' → Q i H') (okX X W m st.length H σ)
def pNo : En → Sto → Rs (Option Int) := fun _ st => .ok none st
def pSome (c : En → Sto → Rs Wv) : En → Sto → Rs (Option Int) := fun env st => (c env st).bind fun w st1 => match w with
  | .d (.int i) => .ok (some i) st1
  | _ => .no
theorem PO.imp {e : Option Expr} {t t' : TO} (h : PO X e t) (q : ∀ σ H Q, t' σ H Q → t σ H Q) : PO X e t' := ⟨fun pins s σ H Q I x => h.run pins s σ H Q I (q σ H Q x)⟩
theorem do_no : DO X none pNo := ⟨fun W tk => PO.imp po_none fun σ H Q ⟨m, env, st, S, R, hp⟩ => hp H m .refl S⟩
theorem do_some {e : Expr} {c : En → Sto → Rs Wv} (h : DE X e c) : DO X (some e) (pSome c) := by
  refine ⟨fun W tk => PO.imp (po_some (h.pe W tk)) fun σ H Q ⟨m, env, st, S, R, hp⟩ => ?_⟩
  unfold pSome at hp
  rw [Rs.post_bind] at hp
  refine ⟨m, env, st, S, R, Rs.post_mono hp (fun w st1 q v H1 m1 f1 S1 r1 => ?_) fun _ _ q => q⟩
  split at q
  · cases r1
    exact ⟨_, rfl, q H1 m1 f1 S1⟩
  · exact q.elim
def cutD {α : Type} (xs : List α) (lo hi : Option Int) : List α := (xs.drop (HT.sIx xs.length 0 lo)).take (HT.sIx xs.length xs.length hi - HT.sIx xs.length 0 lo)
def slD (lo hi : Option Int) : PyData → Option PyData
  | .list xs => some (.list (cutD xs lo hi))
  | .tuple xs => some (.tuple (cutD xs lo hi))
  | .str z => if z.length ≤ 1000000 then some (.str (cutS z lo hi)) else none
  | _ => none
theorem cut_whole {α : Type} {xs : List α} {lo hi : Option Int} (h : HT.sIx xs.length 0 lo = 0 ∧ HT.sIx xs.length xs.length hi = xs.length) : cutD xs lo hi = xs := by
  unfold cutD
  rw [h.1, h.2]
  simp
theorem RpA.cut {K : Frg} {H : Hp} {Z : Addr → Prop} {vs : List V} {ds : List PyData} (h : RpA K H Z vs ds) (lo hi : Option Int) : RpA K H Z (cutV vs lo hi) (cutD ds lo hi) := by
  unfold cutV cutD
  rw [h.len]
  exact (h.drop _).take _
/-- a slice of a list, whoever holds it -/
def rSlice (K : Frg) : V → Option Int → Option Int → Hp → VK → Prop := fun x lo hi H Q => ∃ Z d r, (∀ a, H a = none → Z a) ∧ RT K H Z x d ∧ slD lo hi d = some r ∧ rOut K H Z r Q
theorem o_slice : SlR X (rSlice X.K) := by
  intro pins s σ H x v vl vu lo hi sl Q I rx hs pl pu ⟨Z, d, r, hz, hd, hf, ho⟩
  unfold slD at hf
  split at hf
  · cases hf
    obtain ⟨a, vs, rfl, h1, h2⟩ := hd.lst
    exact sl_list pins s σ H _ v vl vu lo hi sl Q I rx hs pl pu ⟨a, vs, rfl, h1.sq, rout_lst hz ho (h2.cut lo hi)⟩
  · cases hf
    obtain ⟨a, vs, rfl, h1, h2⟩ := hd.tupT
    have whole : HT.sIx vs.length 0 lo = 0 ∧ HT.sIx vs.length vs.length hi = vs.length → Q (.ref a) H := fun e => by
      rw [cut_whole (by rw [← h2.len]; exact e)] at ho
      exact rout_here ho (.tup h1 h2)
    cases hF : Wtp.F with
    | false => exact sl_tupA pins s σ H _ v vl vu lo hi sl Q I rx hs pl pu ⟨a, vs, rfl, h1.sq, whole, fun _ => rout_tup hF ho (h2.cut lo hi)⟩
    | true => exact sl_tupN pins s σ H _ v vl vu lo hi sl Q I rx hs pl pu ⟨a, vs, rfl, h1.sq, whole, fun _ => rout_new hF ho (h2.cut lo hi)⟩
  · split at hf
    · rename_i h
      cases hf
      exact sl_str pins s σ H x v vl vu lo hi sl Q I rx hs pl pu ⟨_, hd.str, Nat.le_trans h line_lim, rout_here ho (.str _)⟩
    · cases hf
  · cases hf
def eSlice (c : En → Sto → Rs Wv) (l h : En → Sto → Rs (Option Int)) : En → Sto → Rs Wv := fun env st => (c env st).bind fun w st1 => (l env st1).bind fun lo st2 => (h env st2).bind fun hi st3 => look1 w st3 fun d => ret1 (slD lo hi d) st3
theorem de_slice {a : Expr} {lo hi : Option Expr} {c : En → Sto → Rs Wv} {l h : En → Sto → Rs (Option Int)} {p2 pos : Pos} (ha : DE X a c) (hl : DO X lo l) (hh : DO X hi h) : DE X (.Subscript a (.Slice lo hi none p2) pos) (eSlice c l h) := by
  refine ⟨fun W tk => PE.imp (pe_slice o_slice (ha.pe W tk) (hl.po W tk) (hh.po W tk)) fun σ H Q ⟨m, env, st, S, R, hp⟩ => ?_⟩
  unfold eSlice at hp
  rw [Rs.post_bind] at hp
  refine ⟨m, env, st, S, R, Rs.post_mono hp (fun w st1 q v H1 m1 f1 S1 r1 => ?_) fun _ _ q => q⟩
  rw [Rs.post_bind] at q
  refine ⟨m1, env, st1, S1, R.mv f1, Rs.post_mono q (fun i st2 q H2 m2 f2 S2 => ?_) fun _ _ q => okX.tr f1 q⟩
  rw [Rs.post_bind] at q
  refine ⟨m2, env, st2, S2, (R.mv f1).mv f2, Rs.post_mono q (fun j st3 q H3 m3 f3 S3 => ?_) fun _ _ q => okX.tr (f1.trans f2) q⟩
  obtain ⟨d, e1, q⟩ := look1_post q
  obtain ⟨r, e2, q⟩ := ret1_post q
  exact ⟨_, d, r, fun a => S3.fresh, look_rt S3 ((r1.mv f2).mv f3) e1, e2, okE.out ((f1.trans f2).trans f3) S3 q⟩
/-! ## built-ins by their names -/
theorem de_callB {a : Expr} {as : List Expr} {cs : En → Sto → Rs (List Wv)} {x : Str} {id : String} {f : List PyData → Option PyData} {M : Md} {B : Tb} {k : Nat} {p pos : Pos} (c : Cxt M X B k) (hc : CallR X (.builtin id) (rN X.K f)) (j : Nat) (hg : B.gs[j]? = some x) (hm : M.mg x = none)
    (hv : bootBuiltins x = some (.builtin id)) (ha : DA X (a :: as) cs) (hn : x ≠ "__name__" := by decide) (hdb : (x == ("__debug__" : Str)) = false := by decide)
    (he : starEach (a :: as) X.env = (false, eval a X.env) :: starEach as X.env := by rfl) (hpl : (backTo pos (starEach as X.env)).any (·.1) = false := by rfl) : DE X (.Call (.Name x p) (a :: as) [] pos) (eOpN f cs) :=
  ⟨fun W tk => PE.imp (pe_callB hc (c.gl j x hg) (by rw [c.mg]; exact hm) hv (ha.pa W tk) hn hdb he hpl) fun σ H Q => te_all f⟩
theorem de_callT {a : Expr} {as : List Expr} {cs : En → Sto → Rs (List Wv)} {x : Str} {T : String} {f : List PyData → Option PyData} {M : Md} {B : Tb} {k : Nat} {p pos : Pos} (c : Cxt M X B k) (hc : CallR X (.type T) (rN X.K f)) (j : Nat) (hg : B.gs[j]? = some x) (hm : M.mg x = none)
    (hv : bootBuiltins x = some (.type T)) (ha : DA X (a :: as) cs) (hn : x ≠ "__name__" := by decide) (hdb : (x == ("__debug__" : Str)) = false := by decide)
    (he : starEach (a :: as) X.env = (false, eval a X.env) :: starEach as X.env := by rfl) (hpl : (backTo pos (starEach as X.env)).any (·.1) = false := by rfl) : DE X (.Call (.Name x p) (a :: as) [] pos) (eOpN f cs) :=
  ⟨fun W tk => PE.imp (pe_callTy hc (c.gl j x hg) (by rw [c.mg]; exact hm) hv (ha.pa W tk) hn hdb he hpl) fun σ H Q => te_all f⟩
theorem rts1 {K : Frg} {H : Hp} {Z : Addr → Prop} {vs : List V} {d : PyData} (h : RTs K H Z vs [d]) : ∃ v, vs = [v] ∧ RT K H Z v d := by
  cases h with | cons h1 h2 => cases h2; exact ⟨_, rfl, h1⟩
theorem rts2 {K : Frg} {H : Hp} {Z : Addr → Prop} {vs : List V} {d e : PyData} (h : RTs K H Z vs [d, e]) : ∃ v w, vs = [v, w] ∧ RT K H Z v d ∧ RT K H Z w e := by
  cases h with | cons h1 h2 => cases h2 with | cons h3 h4 => cases h4; exact ⟨_, _, rfl, h1, h3⟩
theorem Inv.rt1 {K : Frg} {Z : Addr → Prop} (I : Inv X pins σ H s) {v : V} {us : List Value} {d : PyData} (h : RT X.K H Z v d) (r : Vals [v] us) : ∃ u as, us = [u] ∧ RelV v u ∧ Reads s.heap u d as := by
  obtain ⟨u, rfl, r1⟩ := Vals.one r
  obtain ⟨as, q⟩ := Inv.rt I h r1
  exact ⟨u, as, rfl, r1, q⟩
theorem RpT.len {K : Frg} {H : Hp} {Z : Addr → Prop} : ∀ {ks : List (List Key × V)} {es : List (PyData × PyData)}, RpT K H Z ks es → ks.length = es.length
  | [], [], _ => rfl
  | _ :: _, _ :: _, .cons _ _ h => by simp [RpT.len h]
def lenD : PyData → Option PyData
  | .list xs => some (.int xs.length)
  | .tuple xs => some (.int xs.length)
  | .dict es => some (.int es.length)
  | .str z => if z.length ≤ 1000000 then some (.int z.length) else none
  | _ => none
def lenF : List PyData → Option PyData
  | [d] => lenD d
  | _ => none
theorem RpK.len {K : Frg} {H : Hp} {Z : Addr → Prop} : ∀ {ks : List (Key × V)} {es : List (PyData × PyData)}, RpK K H Z ks es → ks.length = es.length
  | [], [], _ => rfl
  | _ :: _, _ :: _, .cons _ _ h => by simp [RpK.len h]
theorem c_len : CallR X (.builtin "len") (rN X.K lenF) := by
  intro pins s σ H xs us Q I r ⟨Z, ds, e, hz, hd, hf, ho⟩
  unfold lenF at hf
  split at hf
  · obtain ⟨v, rfl, h⟩ := rts1 hd
    unfold lenD at hf
    split at hf
    · cases hf
      obtain ⟨a, vs, rfl, h1, h2⟩ := h.lst
      exact call_len_seq pins s σ H _ us Q I r ⟨a, vs, rfl, .inl h1.sq, by rw [h2.len]; exact rout_here ho (.int _)⟩
    · cases hf
      obtain ⟨a, vs, rfl, h1, h2⟩ := h.tup
      exact call_len_seq pins s σ H _ us Q I r ⟨a, vs, rfl, .inr h1, by rw [h2.len]; exact rout_here ho (.int _)⟩
    · cases hf
      obtain ⟨a, rfl, h1⟩ := h.dic
      obtain ⟨u, rfl, r1⟩ := Vals.one r
      cases r1
      rcases h1 with ⟨ks, h1, h2⟩ | ⟨ks, h1, h2⟩
      · exact d_len I h1 fun t s1 I1 => ⟨.int ks.length, H, I1, ⟨t, rfl⟩, by rw [h2.len]; exact rout_here ho (.int _)⟩
      · obtain ⟨z, hsm, xs, rel, dd⟩ := dt_rd I.hok h1
        refine call_len_dictH hsm dd (by rw [← Paired.length rel]; rw [sizeLine_eq] at z; omega) ?_
        exact ⟨.int xs.length, H, I.tok _, ⟨_, rfl⟩, by rw [← Paired.length rel, h2.len]; exact rout_here ho (.int _)⟩
    · split at hf
      · rename_i hl
        cases hf
        have e1 := h.str
        subst e1
        exact call_len_str pins s σ H _ us Q I r ⟨_, rfl, Nat.le_trans hl line_lim, rout_here ho (.int _)⟩
      · cases hf
    · cases hf
  · cases hf
end
end
section
variable [Wtp] [Tbl]
section
variable {X : Cx} {pins : List (Addr × Obj)} {σ : L2.St} {H : Hp} {s : Shared}
/-- what a sequence holds -/
def seqOf : PyData → Option (List PyData)
  | .list xs => some xs
  | .tuple xs => some xs
  | _ => none
def intsOf : List PyData → Option (List Int)
  | [] => some []
  | .int i :: r => (intsOf r).map (i :: ·)
  | _ :: _ => none
def boolsOf : List PyData → Option (List Bool)
  | [] => some []
  | .bool b :: r => (boolsOf r).map (b :: ·)
  | _ :: _ => none
theorem intsOf_map (ns : List Int) : intsOf (ns.map .int) = some ns := by
  induction ns with
  | nil => rfl
  | cons n r ih => rw [List.map_cons, intsOf, ih]; rfl
theorem intsOf_eq : ∀ {xs : List PyData} {ns : List Int}, intsOf xs = some ns → xs = ns.map .int
  | [], ns, h => by cases h; rfl
  | .int i :: r, ns, h => by
    rw [intsOf] at h
    cases q : intsOf r with
    | none => rw [q] at h; cases h
    | some l => rw [q] at h; cases h; rw [List.map_cons, ← intsOf_eq q]
  | .none :: r, ns, h => by cases h
  | .bool _ :: r, ns, h => by cases h
  | .str _ :: r, ns, h => by cases h
  | .list _ :: r, ns, h => by cases h
  | .tuple _ :: r, ns, h => by cases h
  | .dict _ :: r, ns, h => by cases h
theorem boolsOf_map (ns : List Bool) : boolsOf (ns.map .bool) = some ns := by
  induction ns with
  | nil => rfl
  | cons n r ih => rw [List.map_cons, boolsOf, ih]; rfl
theorem boolsOf_eq : ∀ {xs : List PyData} {ns : List Bool}, boolsOf xs = some ns → xs = ns.map .bool
  | [], ns, h => by cases h; rfl
  | .bool i :: r, ns, h => by
    rw [boolsOf] at h
    cases q : boolsOf r with
    | none => rw [q] at h; cases h
    | some l => rw [q] at h; cases h; rw [List.map_cons, ← boolsOf_eq q]
  | .none :: r, ns, h => by cases h
  | .int _ :: r, ns, h => by cases h
  | .str _ :: r, ns, h => by cases h
  | .list _ :: r, ns, h => by cases h
  | .tuple _ :: r, ns, h => by cases h
  | .dict _ :: r, ns, h => by cases h
theorem RpA.ints {K : Frg} {Z : Addr → Prop} : ∀ {vs : List V} {ns : List Int}, RpA K H Z vs (ns.map .int) → vs = ns.map V.int
  | [], [], _ => rfl
  | _ :: _, _ :: _, .cons h1 h2 => by cases h1; rw [List.map_cons, ← RpA.ints h2]
theorem RpA.bools {K : Frg} {Z : Addr → Prop} : ∀ {vs : List V} {ns : List Bool}, RpA K H Z vs (ns.map .bool) → vs = ns.map V.bl
  | [], [], _ => rfl
  | _ :: _, _ :: _, .cons h1 h2 => by cases h1; rw [List.map_cons, ← RpA.bools h2]
/-! ### abs, sum, any, all -/
def absF : List PyData → Option PyData
  | [.int i] => some (.int i.natAbs)
  | _ => none
theorem c_abs : CallR X (.builtin "abs") (rN X.K absF) := by
  intro pins s σ H xs us Q I r ⟨Z, ds, e, hz, hd, hf, ho⟩
  unfold absF at hf
  split at hf
  · cases hf
    obtain ⟨v, rfl, h⟩ := rts1 hd
    rw [h.int] at r
    refine call_abs pins s σ H _ us Q I r ⟨_, rfl, ?_⟩
    rename_i i
    rw [show (if i < 0 then -i else i) = (i.natAbs : Int) by split <;> omega]
    exact rout_here ho (.int _)
  · cases hf
def sumF : List PyData → Option PyData
  | [d] => match seqOf d with
    | some xs => (intsOf xs).map fun ns => .int ns.sum
    | none => none
  | _ => none
theorem preSum_ints {xs : Array (Int × Tok)} {ns : List Int} {us : List Value} (e : us.toArray = intItems xs) (hi : IntsAre us ns) : preSum (numAt xs) xs.size = ns.sum := by
  have hn : numsOf (intItems xs).toList = ns := by rw [← e]; exact hi.numsOf
  rw [nums_intItems] at hn
  rw [preSum_eq, List.take_of_length_le (by simp), hn]
theorem c_sum (hc : X.calm = true) : CallR X (.builtin "sum") (rN X.K sumF) := by
  intro pins s σ H xs us Q I r ⟨Z, ds, e, hz, hd, hf, ho⟩
  unfold sumF at hf
  split at hf
  · obtain ⟨v, rfl, h⟩ := rts1 hd
    split at hf
    · rename_i xs q
      cases q2 : intsOf xs with
      | none => rw [q2] at hf; cases hf
      | some ns =>
        rw [q2] at hf
        cases hf
        have e1 := intsOf_eq q2
        subst e1
        unfold seqOf at q
        split at q
        · cases q
          obtain ⟨a, vs, rfl, h1, h2⟩ := h.lst
          rw [h2.ints] at h1
          exact cr_sum hc pins s σ H _ us Q I r ⟨a, ns, rfl, h1.sq, rout_here ho (.int _)⟩
        · cases q
          obtain ⟨a, vs, rfl, h1, h2⟩ := h.tup
          rw [h2.ints] at h1
          obtain ⟨u, rfl, r1⟩ := Vals.one r
          cases r1
          obtain ⟨its, rv, ht, _⟩ := I.tuple h1
          have hi := rv.ints
          obtain ⟨ys, e2⟩ := hi.allInts.items
          have e3 := preSum_ints e2 hi
          rw [e2] at ht
          refine PySem.W.ktm_sumG (I.ok.hd hc) ht fun h' tk t' hk => ?_
          rw [e3]
          exact ⟨.int ns.sum, H, I.kept (t' := tk) hk, ⟨t', rfl⟩, rout_here ho (.int _)⟩
        · cases q
    · cases hf
  · cases hf
def allF : List PyData → Option PyData
  | [.list xs] => (boolsOf xs).map fun bs => .bool (bs.all id)
  | _ => none
theorem c_all (hc : X.calm = true) : CallR X (.builtin "all") (rN X.K allF) := by
  intro pins s σ H xs us Q I r ⟨Z, ds, e, hz, hd, hf, ho⟩
  unfold allF at hf
  split at hf
  · rename_i xs
    obtain ⟨v, rfl, h⟩ := rts1 hd
    cases q2 : boolsOf xs with
    | none => rw [q2] at hf; cases hf
    | some ns =>
      rw [q2] at hf
      cases hf
      have e1 := boolsOf_eq q2
      subst e1
      obtain ⟨a, vs, rfl, h1, h2⟩ := h.lst
      rw [h2.bools] at h1
      exact cr_all hc pins s σ H _ us Q I r ⟨a, ns, rfl, h1.sq, rout_here ho (.bl _)⟩
  · cases hf
/-! ### tuple, list, int -/
def tupF : List PyData → Option PyData
  | [d] => (seqOf d).map .tuple
  | _ => none
def intF : List PyData → Option PyData
  | [.int i] => some (.int i)
  | [.bool b] => some (.int (if b then 1 else 0))
  | _ => none
theorem c_tup : CallR X (.type "tuple") (rN X.K tupF) := by
  intro pins s σ H xs us Q I r ⟨Z, ds, e, hz, hd, hf, ho⟩
  unfold tupF at hf
  split at hf
  · obtain ⟨v, rfl, h⟩ := rts1 hd
    unfold seqOf at hf
    split at hf
    · cases hf
      obtain ⟨a, vs, rfl, h1, h2⟩ := h.lst
      cases hF : Wtp.F with
      | false => exact call_tuple_of pins s σ H _ us Q I r ⟨a, vs, rfl, .inl ⟨h1.sq, rout_tup hF ho h2⟩⟩
      | true => exact call_tupleN pins s σ H _ us Q I r ⟨a, vs, rfl, .inl ⟨h1.sq, rout_new hF ho h2⟩⟩
    · cases hf
      obtain ⟨a, vs, rfl, h1, h2⟩ := h.tupT
      exact call_tuple_of pins s σ H _ us Q I r ⟨a, vs, rfl, .inr ⟨h1.sq, rout_here ho (.tup h1 h2)⟩⟩
    · cases hf
  · cases hf
theorem c_int : CallR X (.type "int") (rN X.K intF) := by
  intro pins s σ H xs us Q I r ⟨Z, ds, e, hz, hd, hf, ho⟩
  unfold intF at hf
  split at hf
  · cases hf
    obtain ⟨v, rfl, h⟩ := rts1 hd
    rw [h.int] at r
    exact call_int1 pins s σ H _ us Q I r (.inl ⟨_, rfl, rout_here ho (.int _)⟩)
  · cases hf
    obtain ⟨v, rfl, h⟩ := rts1 hd
    rw [h.bl] at r
    exact call_int1 pins s σ H _ us Q I r (.inr ⟨_, rfl, rout_here ho (.int _)⟩)
  · cases hf
/-! ### isinstance of a built-in class -/
def isaD (T : String) (d : PyData) : Option PyData := match T with
  | "int" => some (.bool d.isInt)
  | "bool" => some (.bool d.isBool)
  | "str" => some (.bool d.isStr)
  | "tuple" => some (.bool d.isTuple)
  | "list" => some (.bool d.isList)
  | "dict" => some (.bool d.isDict)
  | _ => none
def rIsa (K : Frg) (T : String) : List V → Hp → VK → Prop := fun vs H Q => ∃ Z v d r, vs = [v, .ty T] ∧ RT K H Z v d ∧ isaD T d = some r ∧ rOut K H Z r Q
theorem c_isa {T : String} : CallR X (.builtin "isinstance") (rIsa X.K T) := by
  intro pins s σ H xs us Q I r h
  obtain ⟨Z, v, d, e, rfl, hd, hf, ho⟩ := h
  obtain ⟨u, t, rfl, r1, r2⟩ := Vals.two r
  cases r2
  obtain ⟨as, q⟩ := Inv.rt I hd r1
  have fin : ∀ (b : Bool), e = .bool b → ∀ tk, EP X pins σ Q (.bool b) { s with toks := tk } := fun b eb tk => ⟨.bl b, H, I.tok tk, rfl, rout_here ho (by rw [eb]; exact .bl b)⟩
  unfold isaD at hf
  split at hf
  · cases hf; exact PySem.W.isinstance_int_data q fun tk _ => fin _ rfl tk
  · cases hf; exact PySem.W.isinstance_bool_data q fun tk _ => fin _ rfl tk
  · cases hf; exact PySem.W.isinstance_str_data q fun tk _ => fin _ rfl tk
  · cases hf; exact PySem.W.isinstance_tuple_data q fun tk _ => fin _ rfl tk
  · cases hf; exact PySem.W.isinstance_list_data q fun tk _ => fin _ rfl tk
  · cases hf; exact PySem.W.isinstance_dict_data q fun tk _ => fin _ rfl tk
  · cases hf
theorem de_isa {M : Md} {B : Tb} {k : Nat} {a : Expr} {ca : En → Sto → Rs Wv} {x : Str} {T : String} {p p2 pos : Pos} (c : Cxt M X B k) (j j2 : Nat) (hg : B.gs[j]? = some ("isinstance" : Str)) (hm : M.mg "isinstance" = none) (hg2 : B.gs[j2]? = some x) (hm2 : M.mg x = none)
    (hv : bootBuiltins x = some (.type T)) (ha : DE X a ca) (hn : x ≠ "__name__" := by decide) (hdb : (x == ("__debug__" : Str)) = false := by decide)
    (he : starEach [a, .Name x p2] X.env = (false, eval a X.env) :: starEach [.Name x p2] X.env := by rfl) : DE X (.Call (.Name "isinstance" p) [a, .Name x p2] [] pos) (eOp1 (isaD T) ca) := by
  refine ⟨fun W tk => PE.imp (pe_callB (c_isa (T := T)) (c.gl j _ hg) (by rw [c.mg]; exact hm) (by decide +kernel) (pa_cons (ha.pe W tk) (pa_cons (pe_bltn (v := .ty T) (c.gl j2 _ hg2) (by rw [c.mg]; exact hm2) hv rfl hn hdb) pa_nil) he) (by decide) (by decide) he) fun σ H Q h => ?_⟩
  obtain ⟨m, env, st, S, R, hp⟩ := h
  unfold eOp1 at hp
  rw [Rs.post_bind] at hp
  refine ⟨m, env, st, S, R, Rs.post_mono hp (fun w st1 q v H1 m1 f1 S1 r1 => ?_) fun _ _ q => q⟩
  obtain ⟨d, e1, q⟩ := look1_post q
  obtain ⟨r, e3, q⟩ := ret1_post q
  exact ⟨_, v, d, r, rfl, look_rt S1 r1 e1, e3, okE.out f1 S1 q⟩
/-! ### repr -/
def reprOk (d : PyData) : Bool := d.showable && (decide (d.depth ≤ 40) && decide (d.shown.length ≤ 16000000))
def reprF : List PyData → Option PyData
  | [.dict []] => some (.str "{}")
  | [d] => if reprOk d then some (.str d.shown) else none
  | _ => none
theorem readsAll_none {h : Heap} {l : List Value} {as : List Addr} (r : ReadsAll h l [] as) : as = [] := by cases r; rfl
theorem c_repr {k : Nat} (hr : L2H.RoomH k X.A) (hg : X.A.guards = some []) (sm : SysM X.base) : CallR X (.builtin "repr") (rN X.K reprF) := by
  intro pins s σ H xs us Q I r ⟨Z, ds, e, hz, hd, hf, ho⟩
  have line : 16000000 ≤ sizeLine := by rw [sizeLine_eq]; decide
  have hu := room_eq hr (show 60 ≤ 60 by decide)
  unfold reprF at hf
  split at hf
  · cases hf
    obtain ⟨v, rfl, h⟩ := rts1 hd
    obtain ⟨a, rfl, h1⟩ := h.dic
    obtain ⟨u, as, rfl, r1, q⟩ := Inv.rt1 (K := X.K) I h r
    cases r1
    obtain ⟨hs, _⟩ := dkT_k I h1 rfl
    have hns : sysModules ∉ as := by
      cases q with
      | dict h1 h2 h3 h4 h5 =>
        rw [readsAll_none h4, readsAll_none h5]
        intro z
        simp at z
        rw [z] at hs
        simp at hs
    exact repr_of_reads' q (by decide +kernel) (fun _ => hns) hg (by show X.A.units + (_ + 1) < cLine; simp only [PyData.depth, PyData.depthKv]; omega) (fun _ _ e => e) (fun h' u tk hk => ⟨.str "{}", H, I.kept (t' := tk) hk, ⟨u, rfl⟩, rout_here ho (.str _)⟩) (by show ("{}" : Str).length ≤ sizeLine; exact Nat.le_trans (by decide +kernel) line)
  · split at hf
    · rename_i d _ hk
      cases hf
      unfold reprOk at hk
      simp only [Bool.and_eq_true, decide_eq_true_eq] at hk
      obtain ⟨k1, k2, k3⟩ := hk
      obtain ⟨v, rfl, h⟩ := rts1 hd
      obtain ⟨u, rfl, r1⟩ := Vals.one r
      obtain ⟨as, q, off⟩ := Inv.rtM I h r1
      have big : d.shown.length ≤ sizeLine := Nat.le_trans k3 line
      have hnd : d.hasDict = true → sysModules ∉ as := fun _ => off (sm.up I.bk)
      have seq : ∀ a, u = .ref a → wpAny (model X.prog X.w) X.A (call (.builtin "repr") [u]) (EP X pins σ Q) X.xe s := fun a ea => by
        subst ea
        exact repr_of_reads' q k1 hnd hg (by omega) (fun _ _ e => e) (fun h' u tk hk => ⟨.str d.shown, H, I.kept (t' := tk) hk, ⟨u, rfl⟩, rout_here ho (.str _)⟩) big
      cases d with
      | none => rw [h.non] at r1; cases r1; exact PySem.P.repr_of_none ⟨.str "None", H, I.tok _, ⟨_, rfl⟩, rout_here ho (.str _)⟩
      | bool b => rw [h.bl] at r1; cases r1; exact PySem.P.repr_of_bool ⟨.str _, H, I.tok _, ⟨_, rfl⟩, rout_here ho (by cases b <;> exact .str _)⟩
      | int i =>
        rw [h.int] at r1
        obtain ⟨t, rfl⟩ := r1
        exact PySem.P.repr_of_int (of_decide_eq_true k1) ⟨.str _, H, I.tok _, ⟨_, rfl⟩, rout_here ho (.str _)⟩
      | str x =>
        rw [h.str] at r1
        obtain ⟨t, rfl⟩ := r1
        exact PySem.P.repr_of_str ⟨.str _, H, I.tok _, ⟨_, rfl⟩, rout_here ho (.str _)⟩ big
      | list xs => obtain ⟨a, vs, rfl, _⟩ := h.lst; exact seq a r1
      | tuple xs => obtain ⟨a, vs, rfl, _⟩ := h.tup; exact seq a r1
      | dict xs => obtain ⟨a, rfl, _⟩ := h.dic; exact seq a r1
    · cases hf
  · cases hf
end
end
section
variable [Wtp] [Tbl]
/-! ## statements -/
inductive Rt where
  | w (x : Wv)
  | f (x : Wv)
  | ft (xs : List Wv)
inductive SR where
  | nx (env : En) (st : Sto)
  | rt (p : Rt) (st : Sto)
  | ex (e : Xc) (st : Sto)
  | no
namespace SR
def post (x : SR) (N : En → Sto → Prop) (R : Rt → Sto → Prop) (W : Xc → Sto → Prop) : Prop := match x with
  | .nx env st => N env st
  | .rt p st => R p st
  | .ex e st => W e st
  | .no => False
@[simp] theorem post_nx (env : En) (st : Sto) (N : En → Sto → Prop) (R : Rt → Sto → Prop) (W : Xc → Sto → Prop) : (SR.nx env st).post N R W = N env st := rfl
@[simp] theorem post_rt (p : Rt) (st : Sto) (N : En → Sto → Prop) (R : Rt → Sto → Prop) (W : Xc → Sto → Prop) : (SR.rt p st).post N R W = R p st := rfl
@[simp] theorem post_ex (p : Xc) (st : Sto) (N : En → Sto → Prop) (R : Rt → Sto → Prop) (W : Xc → Sto → Prop) : (SR.ex p st).post N R W = W p st := rfl
@[simp] theorem post_no (N : En → Sto → Prop) (R : Rt → Sto → Prop) (W : Xc → Sto → Prop) : SR.no.post N R W = False := rfl
theorem post_mono {x : SR} {N N' : En → Sto → Prop} {R R' : Rt → Sto → Prop} {W W' : Xc → Sto → Prop} (h : x.post N R W) (h1 : ∀ a st, N a st → N' a st) (h2 : ∀ a st, R a st → R' a st) (h3 : ∀ a st, W a st → W' a st) : x.post N' R' W' := by
  cases x with
  | nx a st => exact h1 a st h
  | rt a st => exact h2 a st h
  | ex a st => exact h3 a st h
  | no => exact h
/-- what follows -/
def seq (x : SR) (f : En → Sto → SR) : SR := match x with
  | .nx env st => f env st
  | .rt p st => .rt p st
  | .ex e st => .ex e st
  | .no => .no
@[simp] theorem seq_nx (env : En) (st : Sto) (f : En → Sto → SR) : (SR.nx env st).seq f = f env st := rfl
@[simp] theorem seq_rt (p : Rt) (st : Sto) (f : En → Sto → SR) : (SR.rt p st).seq f = .rt p st := rfl
@[simp] theorem seq_ex (p : Xc) (st : Sto) (f : En → Sto → SR) : (SR.ex p st).seq f = .ex p st := rfl
@[simp] theorem seq_no (f : En → Sto → SR) : SR.no.seq f = .no := rfl
theorem post_seq (x : SR) (f : En → Sto → SR) (N : En → Sto → Prop) (R : Rt → Sto → Prop) (W : Xc → Sto → Prop) : (x.seq f).post N R W = x.post (fun env st => (f env st).post N R W) R W := by cases x <;> rfl
end SR
/-- a value, then a statement's end -/
def Rs.sb {α : Type} (x : Rs α) (f : α → Sto → SR) : SR := match x with
  | .ok a st => f a st
  | .ex e st => .ex e st
  | .no => .no
@[simp] theorem Rs.sb_ok {α : Type} (a : α) (st : Sto) (f : α → Sto → SR) : (Rs.ok a st).sb f = f a st := rfl
@[simp] theorem Rs.sb_ex {α : Type} (e : Xc) (st : Sto) (f : α → Sto → SR) : (Rs.ex e st : Rs α).sb f = .ex e st := rfl
@[simp] theorem Rs.sb_no {α : Type} (f : α → Sto → SR) : (Rs.no : Rs α).sb f = .no := rfl
theorem Rs.post_sb {α : Type} (x : Rs α) (f : α → Sto → SR) (N : En → Sto → Prop) (R : Rt → Sto → Prop) (W : Xc → Sto → Prop) : (x.sb f).post N R W = x.post (fun a st => (f a st).post N R W) W := by cases x <;> rfl
def RtR (K : Frg) (H : Hp) (m : Mp) (n : Nat) (v : V) : Rt → Prop
  | .w x => RW K H m n v x
  | .f x => RW K H m n v x
  | .ft xs => ∃ a u vs, v = .ref a ∧ H a = some u ∧ TupO u vs ∧ RWs K H m n vs xs
def okN (X : Cx) (m : Mp) (n : Nat) (H : Hp) (D : Ends) : En → Sto → Prop := fun env st' => ∀ σ' H' m', Fol m n H m' st'.length H' → Sim X.K H' m' st' → EnvR X.K H' m' st'.length env σ' → D.nx σ' H'
def okR (X : Cx) (m : Mp) (n : Nat) (H : Hp) (D : Ends) : Rt → Sto → Prop := fun p st' => ∀ v H' m', Fol m n H m' st'.length H' → Sim X.K H' m' st' → RtR X.K H' m' st'.length v p → D.rt v H'
def okXs (X : Cx) (W : WX) (m : Mp) (n : Nat) (H : Hp) : Xc → Sto → Prop := fun e st' => ∀ c d σ' H' m', Fol m n H m' st'.length H' → Sim X.K H' m' st' → ExR X.K X.mg H' m' st'.length e c d → W c d σ' H'
def tS (X : Cx) (W : WX) (c : En → Sto → SR) : TS := fun D σ H => ∃ m env st, Sim X.K H m st ∧ EnvR X.K H m st.length env σ ∧ (c env st).post (okN X m st.length H D) (okR X m st.length H D) (okXs X W m st.length H)
structure DS (X : Cx) (e : Stmt) (c : En → Sto → SR) : Prop where
  ps : ∀ W, Takes X W → PS X e (tS X W c)
structure DB (X : Cx) (es : List Stmt) (c : En → Sto → SR) : Prop where
  pss : ∀ W, Takes X W → PSs X es (tS X W c)
def sNil : En → Sto → SR := fun env st => .nx env st
def sSeq (a b : En → Sto → SR) : En → Sto → SR := fun env st => (a env st).seq b
def sSet (i : Nat) (c : En → Sto → Rs Wv) : En → Sto → SR := fun env st => (c env st).sb fun w st1 => .nx (env.set i (some w)) st1
def sRet (c : En → Sto → Rs Wv) : En → Sto → SR := fun env st => (c env st).sb fun w st1 => .rt (.w w) st1
def sRetF (c : En → Sto → Rs Wv) : En → Sto → SR := fun env st => (c env st).sb fun w st1 => .rt (.f w) st1
def sRetT (c : En → Sto → Rs (List Wv)) : En → Sto → SR := fun env st => (c env st).sb fun ws st1 => if ws.length ≤ 1000 then .rt (.ft ws) st1 else .no
def sRetN : En → Sto → SR := fun env st => .rt (.w (.d .none)) st
def sExp (c : En → Sto → Rs Wv) : En → Sto → SR := fun env st => (c env st).sb fun _ st1 => .nx env st1
def sIf (t : En → Sto → Rs Bool) (a b : En → Sto → SR) : En → Sto → SR := fun env st => (t env st).sb fun x st1 => if x then a env st1 else b env st1
def sNo : En → Sto → SR := fun _ _ => .no
section
variable {M : Md} {X : Cx} {B : Tb} {k : Nat} {pins : List (Addr × Obj)} {σ : L2.St} {H : Hp} {s : Shared} {m : Mp} {env : En} {st : Sto} {W : WX} {D : Ends} {pos : Pos}
theorem PS.imp {e : Stmt} {t t' : TS} (h : PS X e t) (q : ∀ D σ H, t' D σ H → t D σ H) : PS X e t' := ⟨fun pins s σ H D I x => h.run pins s σ H D I (q D σ H x)⟩
theorem PSs.imp {e : List Stmt} {t t' : TS} (h : PSs X e t) (q : ∀ D σ H, t' D σ H → t D σ H) : PSs X e t' := ⟨fun pins s σ H D I x => h.run pins s σ H D I (q D σ H x)⟩
theorem okXs.x {n : Nat} {e : Xc} {st' : Sto} (h : okXs X W m n H e st') : okX X W m n H σ e st' := fun c d H' m' f S r => h c d σ H' m' f S r
theorem okXs.tr {m1 : Mp} {n n1 : Nat} {H1 : Hp} {e : Xc} {st' : Sto} (f : Fol m n H m1 n1 H1) (h : okXs X W m n H e st') : okXs X W m1 n1 H1 e st' := fun c d σ' H' m' f' S' r => h c d σ' H' m' (f.trans f') S' r
theorem okN.tr {m1 : Mp} {n n1 : Nat} {H1 : Hp} {e : En} {st' : Sto} (f : Fol m n H m1 n1 H1) (h : okN X m n H D e st') : okN X m1 n1 H1 D e st' := fun σ' H' m' f' S' r => h σ' H' m' (f.trans f') S' r
theorem okR.tr {m1 : Mp} {n n1 : Nat} {H1 : Hp} {e : Rt} {st' : Sto} (f : Fol m n H m1 n1 H1) (h : okR X m n H D e st') : okR X m1 n1 H1 D e st' := fun v H' m' f' S' r => h v H' m' (f.trans f') S' r
/-- a value, then the statement -/
theorem te_sb {c : En → Sto → Rs Wv} {f : En → Wv → Sto → SR} {Q : VK} (S : Sim X.K H m st) (R : EnvR X.K H m st.length env σ) (hp : ((c env st).sb (f env)).post (okN X m st.length H D) (okR X m st.length H D) (okXs X W m st.length H))
    (q : ∀ w st1 v H1 m1, Fol m st.length H m1 st1.length H1 → Sim X.K H1 m1 st1 → EnvR X.K H1 m1 st1.length env σ → RW X.K H1 m1 st1.length v w → (f env w st1).post (okN X m st.length H D) (okR X m st.length H D) (okXs X W m st.length H) → Q v H1) : tE X W c σ H Q := by
  rw [Rs.post_sb] at hp
  exact ⟨m, env, st, S, R, Rs.post_mono hp (fun w st1 h v H1 m1 f1 S1 r1 => q w st1 v H1 m1 f1 S1 (R.mv f1) r1 h) fun _ _ h => h.x⟩
theorem db_nil : DB X [] sNil := ⟨fun W tk => PSs.imp pss_nil fun D σ H ⟨m, env, st, S, R, hp⟩ => hp σ H m .refl S R⟩
theorem db_cons {e : Stmt} {es : List Stmt} {a b : En → Sto → SR} (h1 : DS X e a) (h2 : DB X es b) : DB X (e :: es) (sSeq a b) := by
  refine ⟨fun W tk => PSs.imp (pss_cons (h1.ps W tk) (h2.pss W tk)) fun D σ H ⟨m, env, st, S, R, hp⟩ => ?_⟩
  unfold sSeq at hp
  rw [SR.post_seq] at hp
  exact ⟨m, env, st, S, R, SR.post_mono hp (fun env1 st1 q σ1 H1 m1 f1 S1 R1 => ⟨m1, env1, st1, S1, R1, SR.post_mono q (fun _ _ q => okN.tr f1 q) (fun _ _ q => okR.tr f1 q) fun _ _ q => okXs.tr f1 q⟩) (fun _ _ q => q) fun _ _ q => q⟩
theorem db_one {e : Stmt} {a : En → Sto → SR} (h1 : DS X e a) : DB X [e] a := ⟨fun W tk => pss_one (h1.ps W tk)⟩
theorem ds_set (c : Cxt M X B k) (i : Nat) {x : Str} {e : Expr} {ce : En → Sto → Rs Wv} {pos' : Pos} (hi : B.N[i]? = some x) (hl : i ∈ B.ls) (he : DE X e ce) (hs : swapsWith e (some (.Name x pos')) pos.line X.env = pure false := by rfl) : DS X (.Assign [.Name x pos'] e pos) (sSet i ce) := by
  obtain ⟨l1, l2⟩ := c.loc i hl x hi
  refine ⟨fun W tk => PS.imp (ps_set (by rw [c.hN]; exact c.nd) (by rw [c.hN]; exact hi) l1 (he.pe W tk) hs l2) fun D σ H ⟨m, env, st, S, R, hp⟩ => ?_⟩
  exact te_sb (f := fun env w st1 => .nx (env.set i (some w)) st1) S R hp fun w st1 v H1 m1 f1 S1 R1 r1 q => q _ H1 m1 f1 S1 (R1.set i r1)
theorem ds_ret {e : Expr} {ce : En → Sto → Rs Wv} (he : DE X e ce) : DS X (.Return (some e) pos) (sRet ce) := by
  refine ⟨fun W tk => PS.imp (ps_ret (he.pe W tk)) fun D σ H ⟨m, env, st, S, R, hp⟩ => ?_⟩
  exact te_sb (f := fun env w st1 => .rt (.w w) st1) S R hp fun w st1 v H1 m1 f1 S1 R1 r1 q => q v H1 m1 f1 S1 r1
theorem ds_exp {e : Expr} {ce : En → Sto → Rs Wv} (he : DE X e ce) (hs : swapsWith e none pos.line X.env = pure false := by rfl) : DS X (.Expr e pos) (sExp ce) := by
  refine ⟨fun W tk => PS.imp (ps_expr (he.pe W tk) hs) fun D σ H ⟨m, env, st, S, R, hp⟩ => ?_⟩
  exact te_sb (f := fun env w st1 => .nx env st1) S R hp fun w st1 v H1 m1 f1 S1 R1 r1 q => q σ H1 m1 f1 S1 R1
theorem ds_if {t : Expr} {a b : List Stmt} {ct : En → Sto → Rs Bool} {ca cb : En → Sto → SR} (ht : DT X t ct) (ha : DB X a ca) (hb : DB X b cb) : DS X (.If t a b pos) (sIf ct ca cb) := by
  refine ⟨fun W tk => PS.imp (ps_if (ht.pt W tk) (ha.pss W tk) (hb.pss W tk)) fun D σ H ⟨m, env, st, S, R, hp⟩ => ?_⟩
  unfold sIf at hp
  rw [Rs.post_sb] at hp
  refine ⟨m, env, st, S, R, Rs.post_mono hp (fun x st1 q H1 m1 f1 S1 => ?_) fun _ _ h => h.x⟩
  have go : ∀ {c : En → Sto → SR}, (c env st1).post (okN X m st.length H D) (okR X m st.length H D) (okXs X W m st.length H) → tS X W c D σ H1 := fun q =>
    ⟨m1, env, st1, S1, R.mv f1, SR.post_mono q (fun _ _ q => okN.tr f1 q) (fun _ _ q => okR.tr f1 q) fun _ _ q => okXs.tr f1 q⟩
  cases x with
  | true => exact go q
  | false => exact go q
/-- what is never reached -/
theorem ds_no {e : Stmt} : DS X e sNo := ⟨fun W tk => PS.imp ps_never fun D σ H ⟨m, env, st, S, R, hp⟩ => hp⟩
/-! ### targets -/
/-- σ' is σ but at the slots of S -/
def But (S : List Nat) (σ σ' : L2.St) : Prop := σ'.length = σ.length ∧ ∀ j, j ∉ S → σ'[j]? = σ[j]?
theorem But.refl {S : List Nat} {σ : L2.St} : But S σ σ := ⟨rfl, fun _ _ => rfl⟩
theorem But.set {S : List Nat} {σ : L2.St} {i : Nat} {v : Option V} (h : i ∈ S) : But S σ (σ.set i v) := ⟨by simp, fun j hj => List.getElem?_set_ne (fun e : i = j => hj (e ▸ h))⟩
theorem But.trans {S : List Nat} {σ σ1 σ2 : L2.St} (a : But S σ σ1) (b : But S σ1 σ2) : But S σ σ2 := ⟨b.1.trans a.1, fun j hj => (b.2 j hj).trans (a.2 j hj)⟩
/-- a value, or (E) a tuple of which no more is known than its items -/
def RWe (E : Prop) (K : Frg) (H : Hp) (m : Mp) (n : Nat) (v : V) (w : Wv) : Prop := RW K H m n v w ∨ (E ∧ ∃ (xs : List PyData) (a : Addr) (vs : List V), w = .d (.tuple xs) ∧ v = .ref a ∧ SqT K H a vs ∧ RpA K H (Off m n) vs xs)
structure DGE (E : Prop) (X : Cx) (S : List Nat) (tg : Expr) (g : Wv → En → Option En) : Prop where
  pg : PG X tg fun v σ H Q => ∃ m n env w env', RWe E X.K H m n v w ∧ EnvR X.K H m n env σ ∧ g w env = some env' ∧ ∀ σ', EnvR X.K H m n env' σ' → But S σ σ' → Q σ' H
abbrev DG := DGE False
structure DGs (X : Cx) (S : List Nat) (tg : List Expr) (g : List PyData → En → Option En) : Prop where
  pgs : PGs X tg fun vs σ H Q => ∃ m n env ds env', RpA X.K H (Off m n) vs ds ∧ EnvR X.K H m n env σ ∧ g ds env = some env' ∧ ∀ σ', EnvR X.K H m n env' σ' → But S σ σ' → Q σ' H
def gN (i : Nat) : Wv → En → Option En := fun w env => some (env.set i (some w))
def gTp (g : List PyData → En → Option En) : Wv → En → Option En := fun w env => match w with
  | .d (.tuple xs) => g xs env
  | _ => none
def gNl : List PyData → En → Option En := fun xs env => match xs with
  | [] => some env
  | _ => none
def gCn (g : Wv → En → Option En) (h : List PyData → En → Option En) : List PyData → En → Option En := fun xs env => match xs with
  | x :: r => (g (.d x) env).bind (h r)
  | [] => none
theorem PG.imp {e : Expr} {t t' : TG} (h : PG X e t) (q : ∀ v σ H Q, t' v σ H Q → t v σ H Q) : PG X e t' := ⟨fun pins s σ H v u Q I r x => h.run pins s σ H v u Q I r (q v σ H Q x)⟩
theorem PGs.imp {e : List Expr} {t t' : TGs} (h : PGs X e t) (q : ∀ v σ H Q, t' v σ H Q → t v σ H Q) : PGs X e t' := ⟨fun pins s σ H v u Q I r x => h.run pins s σ H v u Q I r (q v σ H Q x)⟩
theorem dg_name (c : Cxt M X B k) (S : List Nat) (i : Nat) {x : Str} (hi : B.N[i]? = some x) (hl : i ∈ B.ls) (hS : i ∈ S) : DG X S (.Name x pos) (gN i) := by
  obtain ⟨l1, l2⟩ := c.loc i hl x hi
  refine ⟨PG.imp (pg_name (by rw [c.hN]; exact c.nd) (by rw [c.hN]; exact hi) l1 l2) fun v σ H Q ⟨m, n, env, w, env', r, R, e, q⟩ => ?_⟩
  cases e
  rcases r with r | ⟨z, _⟩
  · exact q _ (R.set i r) (.set hS)
  · exact z.elim
theorem dgs_nil (S : List Nat) : DGs X S [] gNl := by
  refine ⟨PGs.imp pgs_nil fun v σ H Q ⟨m, n, env, ds, env', r, R, e, q⟩ => ?_⟩
  unfold gNl at e
  split at e
  · cases e
    cases r
    exact ⟨rfl, q σ R .refl⟩
  · cases e
theorem dgs_cons {S : List Nat} {e : Expr} {es : List Expr} {g : Wv → En → Option En} {h : List PyData → En → Option En} (h1 : DG X S e g) (h2 : DGs X S es h) (hs : (assignEach (e :: es) X.env).map (·.2) = assign e X.env :: (assignEach es X.env).map (·.2) := by rfl) : DGs X S (e :: es) (gCn g h) := by
  refine ⟨PGs.imp (pgs_cons h1.pg h2.pgs hs) fun v σ H Q ⟨m, n, env, ds, env', r, R, e, q⟩ => ?_⟩
  unfold gCn at e
  split at e
  · rename_i x r'
    cases r with
    | @cons v0 vr _ _ r1 r2 =>
      cases e1 : g (.d x) env with
      | none => rw [e1] at e; cases e
      | some env1 =>
        rw [e1] at e
        exact ⟨v0, vr, rfl, m, n, env, .d x, env1, .inl r1, R, e1, fun σ1 R1 b1 => ⟨m, n, env1, r', env', r2, R1, e, fun σ2 R2 b2 => q σ2 R2 (b1.trans b2)⟩⟩
  · cases e
/-- how many items a target asks -/
def Asks (g : List PyData → En → Option En) (n : Nat) : Prop := ∀ xs env env', g xs env = some env' → xs.length = n
theorem asks_nil : Asks gNl 0 := fun xs env env' h => by
  unfold gNl at h
  split at h
  · rfl
  · cases h
theorem asks_cons {g : Wv → En → Option En} {h : List PyData → En → Option En} {n : Nat} (a : Asks h n) : Asks (gCn g h) (n + 1) := fun xs env env' e => by
  unfold gCn at e
  split at e
  · rename_i x r
    cases e1 : g (.d x) env with
    | none => rw [e1] at e; cases e
    | some env1 => rw [e1] at e; simp [a r env1 env' e]
  · cases e
theorem dg_tup {E : Prop} (c : Cxt M X B k) {S : List Nat} {es : List Expr} {j n : Nat} {g : List PyData → En → Option En} (h : DGs X S es g) (a : Asks g n) (hn : (assignEach es X.env).length = n := by rfl) (hst : (assignEach es X.env).findIdx? (·.1) = none := by rfl) : DGE E X S (.Tuple es j pos) (gTp g) := by
  refine ⟨PG.imp (pg_tup c.calm h.pgs hn hst) fun v σ H Q ⟨m, n', env, w, env', r, R, e, q⟩ => ?_⟩
  unfold gTp at e
  split at e
  · rename_i xs
    rcases r with r | ⟨_, xs', b, vs, e1, rfl, h1, h2⟩
    · cases r with
      | tup h1 h2 => exact ⟨_, _, rfl, h1.sq, by rw [h2.len]; exact a _ _ _ e, m, n', env, xs, env', h2, R, e, q⟩
    · cases e1
      exact ⟨_, _, rfl, h1, by rw [h2.len]; exact a _ _ _ e, m, n', env, xs, env', h2, R, e, q⟩
  · cases e
def sAsg (g : Wv → En → Option En) (c : En → Sto → Rs Wv) : En → Sto → SR := fun env st => (c env st).sb fun w st1 => match g w env with
  | some env' => .nx env' st1
  | none => .no
theorem ds_asg {tg e : Expr} {g : Wv → En → Option En} {ce : En → Sto → Rs Wv} {S0 : List Nat} (he : DE X e ce) (hg : DG X S0 tg g) (hs : swapsWithSole [tg] e pos.line X.env = pure false := by rfl) (hw : swappedStores [tg] e X.env = pure none := by rfl)
    (h1 : (assignEach [tg] X.env).map (·.2) = [assign tg X.env] := by rfl) : DS X (.Assign [tg] e pos) (sAsg g ce) := by
  refine ⟨fun W tk => PS.imp (ps_asg (he.pe W tk) hg.pg hs hw h1) fun D σ H ⟨m, env, st, S, R, hp⟩ => ?_⟩
  refine te_sb (f := fun env w st1 => match g w env with | some env' => .nx env' st1 | none => .no) S R hp fun w st1 v H1 m1 f1 S1 R1 r1 q => ?_
  split at q
  · exact ⟨m1, st1.length, env, w, _, .inl r1, R1, by assumption, fun σ' R' _ => q σ' H1 m1 f1 S1 R'⟩
  · exact q.elim
/-- a, b = x, y of plain names -/
def sPar2 (i j : Nat) (c : En → Sto → Rs (List Wv)) : En → Sto → SR := fun env st => (c env st).sb fun ws st1 => match ws with
  | [v, w] => .nx ((env.set i (some v)).set j (some w)) st1
  | _ => .no
def sPar3 (i j l : Nat) (c : En → Sto → Rs (List Wv)) : En → Sto → SR := fun env st => (c env st).sb fun ws st1 => match ws with
  | [u, v, w] => .nx (((env.set i (some u)).set j (some v)).set l (some w)) st1
  | _ => .no
end
end
section
variable [Wtp] [Tbl]
/-! ## a comprehension's block -/
def Tb.blk (B : Tb) (us ls : List Nat) (gs cs : List Str) : Tb := ⟨B.N, us, ls, [], gs, cs, false, B.gd, B.lq⟩
def kdV : Option NameKind → Bool
  | some .local => true
  | some .cell => true
  | some .free => true
  | _ => false
def kdL : Option NameKind → Bool
  | some .local => true
  | some .cell => true
  | _ => false
def kdC : Option NameKind → Bool
  | some .cell => true
  | some .free => true
  | _ => false
def kdG : Option NameKind → Bool
  | some .globalImplicit => true
  | _ => false
def blkT (B : Tb) (us ls : List Nat) (gs cs : List Str) (sc : Scope) (own : List (Str × Nat)) : Bool :=
  (match sc.kind with | .function => true | _ => false) &&
  ((sc.names.all fun y => decide (sc.names.lookup y.1 = some y.2)) &&
  ((own.all fun p => decide (B.N[p.2]? = some p.1)) &&
  ((sc.names.all fun y => match y.2 with
    | .free => decide (y.1 ∈ B.cs)
    | .local => decide (y.1 ∈ own.map (·.1)) || decide (y.1 ∉ B.N)
    | .cell => decide (y.1 ∈ own.map (·.1)) || decide (y.1 ∉ B.N)
    | _ => true) &&
  ((us.all fun i => match B.N[i]? with | some x => kdV (sc.names.lookup x) | none => true) &&
  ((ls.all fun i => match B.N[i]? with | some x => kdL (sc.names.lookup x) | none => true) &&
  ((gs.all fun x => kdG (sc.names.lookup x)) && (cs.all fun x => kdC (sc.names.lookup x))))))))
section
variable {M : Md} {X : Cx} {B : Tb} {k : Nat} {sc : Scope} {own : List (Str × Nat)} {us ls : List Nat} {gs cs : List Str}
theorem relS_keep {s0 : Scope} {x : Str} {q : NameKind} (h : sc.names.lookup x = some q) (hf : q ≠ .free) : (relS sc s0).names.lookup x = some q := lookup_relS_keep hf h
theorem relS_free {s0 : Scope} : ∀ {names : List (Str × NameKind)} {x : Str}, names.lookup x = some .free →
    (names.map fun (n, k) => if (k == NameKind.free && s0.kind == .function && s0.names.lookup n == some .cell) then (n, NameKind.cell) else (n, k)).lookup x = some .cell ∨
    (names.map fun (n, k) => if (k == NameKind.free && s0.kind == .function && s0.names.lookup n == some .cell) then (n, NameKind.cell) else (n, k)).lookup x = some .free
  | [], _, h => by simp at h
  | (n, q) :: r, x, h => by
    have ih := @relS_free s0 r x
    cases e : x == n with
    | true =>
      simp only [List.lookup_cons, e] at h
      cases h
      simp only [List.map_cons]
      split
      · exact .inl (by simp only [List.lookup_cons, e])
      · exact .inr (by simp only [List.lookup_cons, e])
    | false =>
      simp only [List.lookup_cons, e] at h
      simp only [List.map_cons]
      split
      · rcases ih h with z | z
        · exact .inl (by simp only [List.lookup_cons, e]; exact z)
        · exact .inr (by simp only [List.lookup_cons, e]; exact z)
      · rcases ih h with z | z
        · exact .inl (by simp only [List.lookup_cons, e]; exact z)
        · exact .inr (by simp only [List.lookup_cons, e]; exact z)
theorem vis_rel {s0 : Scope} {x : Str} (h : kdV (sc.names.lookup x) = true) : Vis (relS sc s0) x := by
  unfold kdV at h
  split at h
  · exact .inl (relS_keep (by assumption) (by decide))
  · exact .inr (.inl (relS_keep (by assumption) (by decide)))
  · rename_i e
    rcases relS_free (s0 := s0) e with z | z
    · exact .inr (.inl z)
    · exact .inr (.inr z)
  · cases h
theorem cap_rel {s0 : Scope} {x : Str} (h : kdC (sc.names.lookup x) = true) : (relS sc s0).names.lookup x = some .cell ∨ (relS sc s0).names.lookup x = some .free := by
  unfold kdC at h
  split at h
  · exact .inl (relS_keep (by assumption) (by decide))
  · rename_i e
    exact relS_free (s0 := s0) e
  · cases h
theorem loc_rel {s0 : Scope} {x : Str} (h : kdL (sc.names.lookup x) = true) : Loc (relS sc s0) x ∧ ((sc.names.lookup x == some .cell) = true ∨ (relS sc s0).names.lookup x = some .local) := by
  unfold kdL at h
  split at h
  · rename_i e
    exact ⟨.inl (relS_keep e (by decide)), .inr (relS_keep e (by decide))⟩
  · rename_i e
    exact ⟨.inr (relS_keep e (by decide)), .inl (by rw [e]; rfl)⟩
  · cases h
theorem Cxt.blkOk (c : Cxt M X B k) (h : blkT B us ls gs cs sc own = true) : BlkOk X.N X.env.scope sc own := by
  unfold blkT at h
  simp only [Bool.and_eq_true, List.all_eq_true, decide_eq_true_eq] at h
  obtain ⟨h1, h2, h3, h4, _⟩ := h
  refine ⟨?_, h2, by rw [c.hN]; exact h3, fun y hy e => ?_, fun y hy e => ?_⟩
  · split at h1
    · assumption
    · cases h1
  · have q := h4 y hy
    simp only [e, decide_eq_true_eq] at q
    exact c.cs _ q
  · have q := h4 y hy
    rw [c.hN]
    rcases e with e | e <;> (simp only [e, Bool.or_eq_true, decide_eq_true_eq] at q; exact q)
theorem Cxt.blk (c : Cxt M X B k) (h : blkT B us ls gs cs sc own = true) (s : Shared) (H : Hp) (C : Addr) (cl : List (Str × Addr)) (fp : List Addr) : Cxt M (X.blk s H sc (compEnvC sc cl C X.env) fp) (B.blk us ls gs cs) k := by
  unfold blkT at h
  simp only [Bool.and_eq_true, List.all_eq_true, decide_eq_true_eq] at h
  obtain ⟨h1, h2, h3, h4, h5, h6, h7, h8⟩ := h
  refine ⟨c.hP, c.hw, c.hK, c.mg, c.hb, c.hN, c.nd, c.calm, fun z => (Bool.false_ne_true z).elim, c.room, c.gu, fun i hi x hx => ?_, fun i hi x hx => ?_, fun i hi => absurd hi List.not_mem_nil, fun j x hx => ?_, fun x hx => ?_, fun z => (Bool.false_ne_true z).elim, c.lam, fun z => (Bool.false_ne_true z).elim⟩
  · have q := h5 i hi
    rw [show B.N[i]? = some x from hx] at q
    exact vis_rel q
  · have q := h6 i hi
    rw [show B.N[i]? = some x from hx] at q
    exact loc_rel q
  · have q := h7 x (List.mem_of_getElem? hx)
    unfold kdG at q
    split at q
    · rename_i e
      exact relS_keep e (by decide)
    · cases q
  · exact cap_rel (h8 x hx)
end
/-! ## what is walked -/
structure Sc where
  xs : List PyData
  lv : List (Nat × List PyData)
def lvOk (lv : List (Nat × List PyData)) (st : Sto) : Prop := ∀ p ∈ lv, st[p.1]? = some (.lst p.2)
@[simp] theorem lvOk_nil (st : Sto) : lvOk [] st = True := eq_true fun p hp => absurd hp List.not_mem_nil
theorem lvOk_one (i : Nat) (xs : List PyData) (st : Sto) : lvOk [(i, xs)] st = (st[i]? = some (.lst xs)) := propext ⟨fun h => h (i, xs) (by simp), fun h p hp => by cases List.mem_singleton.mp hp; exact h⟩
theorem lvOk_app (a b : List (Nat × List PyData)) (st : Sto) : lvOk (a ++ b) st = (lvOk a st ∧ lvOk b st) := propext ⟨fun h => ⟨fun p hp => h p (by simp [hp]), fun p hp => h p (by simp [hp])⟩, fun h p hp => (List.mem_append.mp hp).elim (h.1 p) (h.2 p)⟩
structure IsIt (E : Prop) (K : Frg) (J : It) (m : Mp) (n : Nat) (H : Hp) (sc : Sc) : Prop where
  go : ∀ i H2 m2 st2, Fol m n H m2 st2.length H2 → Sim K H2 m2 st2 → lvOk sc.lv st2 → i < sc.xs.length → J.go i H2
  stop : ∀ H2 m2 st2, Fol m n H m2 st2.length H2 → Sim K H2 m2 st2 → lvOk sc.lv st2 → J.stop sc.xs.length H2
  yld : ∀ i H2 m2 st2 v H3, Fol m n H m2 st2.length H2 → Sim K H2 m2 st2 → lvOk sc.lv st2 → i < sc.xs.length → J.yld i H2 v H3 → (∀ a o, H2 a = some o → H3 a = some o) ∧ ∃ d, sc.xs[i]? = some d ∧ RWe E K H3 m2 st2.length v (.d d)
def tI (E : Prop) (X : Cx) (W : WX) (c : En → Sto → Rs Sc) : TI := fun σ H R => ∃ m env st, Sim X.K H m st ∧ EnvR X.K H m st.length env σ ∧
  (c env st).post (fun sc st' => ∀ J H' m', Fol m st.length H m' st'.length H' → Sim X.K H' m' st' → IsIt E X.K J m' st'.length H' sc → R J H') (okX X W m st.length H σ)
structure DIE (E : Prop) (X : Cx) (tg e : Expr) (c : En → Sto → Rs Sc) : Prop where
  pi : ∀ W, Takes X W → PI X tg e (tI E X W c)
abbrev DI := DIE False
section
open Classical
/-- the turns of a for -/
noncomputable def forL (g : Wv → En → Option En) (b : En → Sto → SR) (lv : List (Nat × List PyData)) : List PyData → En → Sto → SR
  | [], env, st => if lvOk lv st then .nx env st else .no
  | x :: r, env, st => if lvOk lv st then match g (.d x) env with
      | some env1 => (b env1 st).seq (forL g b lv r)
      | none => .no
    else .no
noncomputable def sFor (c : En → Sto → Rs Sc) (g : Wv → En → Option En) (b : En → Sto → SR) : En → Sto → SR := fun env st => (c env st).sb fun sc st1 => forL g b sc.lv sc.xs env st1
def wipeE (env : En) : List Nat → En
  | [] => env
  | i :: vs => (wipeE env vs).set i none
/-- the turns of a comprehension -/
noncomputable def lcL (g : Wv → En → Option En) (t : En → Sto → Rs Bool) (c : En → Sto → Rs Wv) (lv : List (Nat × List PyData)) (env : En) : List PyData → List PyData → Sto → Rs (List PyData)
  | [], acc, st => if lvOk lv st then .ok acc st else .no
  | x :: r, acc, st => if lvOk lv st then match g (.d x) env with
      | some env1 => match t env1 st with
        | .ok true st1 => (match c env1 st1 with
          | .ok (.d y) st2 => lcL g t c lv env r (acc ++ [y]) st2
          | _ => .no)
        | .ok false st1 => lcL g t c lv env r acc st1
        | _ => .no
      | none => .no
    else .no
noncomputable def cLc (ci : En → Sto → Rs Sc) (g : Wv → En → Option En) (t : En → Sto → Rs Bool) (c : En → Sto → Rs Wv) (vs : List Nat) : En → Sto → Rs (List PyData) := fun env st => (ci env st).bind fun sc st1 =>
  if sc.xs.length ≤ 1000000 then lcL g t c sc.lv (wipeE env vs) sc.xs [] st1 else .no
noncomputable def eLc (ci : En → Sto → Rs Sc) (g : Wv → En → Option En) (t : En → Sto → Rs Bool) (c : En → Sto → Rs Wv) (vs : List Nat) : En → Sto → Rs Wv := fun env st => (cLc ci g t c vs env st).bind fun ys st2 => .ok (.d (.list ys)) st2
noncomputable def eLcN (ci : En → Sto → Rs Sc) (g : Wv → En → Option En) (t : En → Sto → Rs Bool) (c : En → Sto → Rs Wv) (vs : List Nat) : En → Sto → Rs Wv := fun env st => (cLc ci g t c vs env st).bind fun ys st2 => .ok (.r st2.length) (st2 ++ [.lst ys])
end
def tYs : En → Sto → Rs Bool := fun _ st => .ok true st
structure DTs (X : Cx) (es : List Expr) (c : En → Sto → Rs Bool) : Prop where
  pts : ∀ W, Takes X W → PTs X es (tT X W c)
section
variable {M : Md} {X : Cx} {B : Tb} {k : Nat} {pins : List (Addr × Obj)} {σ : L2.St} {H : Hp} {s : Shared} {m : Mp} {env : En} {st : Sto} {W : WX} {D : Ends} {pos : Pos}
theorem seq_post {x : SR} {f : En → Sto → SR} {N : En → Sto → Prop} {R : Rt → Sto → Prop} {E : Xc → Sto → Prop} (h : (x.seq f).post N R E) : x.post (fun env st => (f env st).post N R E) R E := by rw [SR.post_seq] at h; exact h
theorem ds_for {E : Prop} (c : Cxt M X B k) {tg e : Expr} {body : List Stmt} {ci : En → Sto → Rs Sc} {g : Wv → En → Option En} {cb : En → Sto → SR} (S0 : List Nat) (hi : DIE E X tg e ci) (hg : DGE E X S0 tg g) (hb : DB X body cb) (hf : B.fn = true := by rfl)
    (hs : ∀ x, foldedSetIterable e X.env x = pure x := by intro _; rfl) : DS X (.For tg e body [] pos) (sFor ci g cb) := by
  refine ⟨fun W tk => PS.imp (ps_for (c.po hf) c.calm (hi.pi W tk) hg.pg (hb.pss W tk) hs) fun D σ H ⟨m, env, st, S, R, hp⟩ => ?_⟩
  unfold sFor at hp
  rw [Rs.post_sb] at hp
  refine ⟨m, env, st, S, R, Rs.post_mono hp (fun sc st1 q J H1 m1 f1 S1 it => ?_) fun _ _ h => h.x⟩
  generalize hW : (fun (i mm : Nat) (σ' : L2.St) (H' : Hp) => mm = sc.xs.length - i ∧ i ≤ sc.xs.length ∧ ∃ m2 env2 st2, Fol m1 st1.length H1 m2 st2.length H' ∧ Sim X.K H' m2 st2 ∧ EnvR X.K H' m2 st2.length env2 σ' ∧
    (forL g cb sc.lv (sc.xs.drop i) env2 st2).post (okN X m st.length H D) (okR X m st.length H D) (okXs X W m st.length H)) = Wf
  refine ⟨Wf, by rw [← hW]; exact ⟨_, rfl, Nat.zero_le _, m1, env, st1, .refl, S1, R.mv f1, by simpa using q⟩, ?_⟩
  intro i mm σ2 H2 w
  rw [← hW] at w
  obtain ⟨rfl, hi2, m2, env2, st2, f2, S2, R2, q2⟩ := w
  by_cases hlt : i < sc.xs.length
  · rw [List.drop_eq_getElem_cons hlt] at q2
    unfold forL at q2
    split at q2
    · rename_i hl
      split at q2
      · rename_i env3 he3
        refine .inr ⟨it.go i H2 m2 st2 f2 S2 hl hlt, Wf (i + 1) (sc.xs.length - (i + 1)), fun σ' H' z => ⟨_, by omega, z⟩, fun v H3 y => ?_⟩
        obtain ⟨g3, d, hd, r3⟩ := it.yld i H2 m2 st2 v H3 f2 S2 hl hlt y
        rw [List.getElem?_eq_getElem hlt] at hd
        cases hd
        refine ⟨m2, st2.length, env2, .d sc.xs[i], env3, r3, R2.mv (.same g3), he3, fun σ3 R3 _ => ?_⟩
        refine ⟨m2, env3, st2, S2.grow g3, R3, SR.post_mono (seq_post q2) (fun env4 st4 q4 σ4 H4 m4 f4 S4 R4 => ?_) (fun p st4 q4 => ?_) fun e st4 q4 => ?_⟩
        · rw [← hW]; exact ⟨rfl, hlt, m4, env4, st4, (f2.trans (.same g3)).trans f4, S4, R4, q4⟩
        · exact okR.tr ((f1.trans f2).trans (.same g3)) q4
        · exact okXs.tr ((f1.trans f2).trans (.same g3)) q4
      · exact q2.elim
    · exact q2.elim
  · have e : i = sc.xs.length := by omega
    subst e
    rw [List.drop_length] at q2
    unfold forL at q2
    split at q2
    · rename_i hl
      exact .inl ⟨it.stop H2 m2 st2 f2 S2 hl, q2 σ2 H2 m2 (f1.trans f2) S2 R2⟩
    · exact q2.elim
theorem EnvR.unset {K : Frg} {n : Nat} (h : EnvR K H m n env σ) (i : Nat) : EnvR K H m n (env.set i none) (σ.set i none) := by
  refine ⟨by simp [h.len], fun j u e => ?_⟩
  by_cases q : i = j
  · subst q
    by_cases l : i < env.length
    · rw [List.getElem?_set_self l] at e; cases e
    · rw [List.getElem?_eq_none (by simpa using l)] at e; cases e
  · rw [List.getElem?_set_ne q] at e
    obtain ⟨x, h1, h2⟩ := h.at' j u e
    exact ⟨x, by rw [List.getElem?_set_ne q]; exact h1, h2⟩
theorem EnvR.wipe {K : Frg} {n : Nat} (h : EnvR K H m n env σ) : ∀ vs : List Nat, EnvR K H m n (wipeE env vs) (wipe σ vs)
  | [] => h
  | i :: vs => (EnvR.wipe h vs).unset i
theorem wipe_len (σ : L2.St) : ∀ vs : List Nat, (L2.wipe σ vs).length = σ.length
  | [] => rfl
  | i :: vs => by simp [L2.wipe, wipe_len σ vs]
theorem wipe_in {σ : L2.St} {i : Nat} : ∀ {vs : List Nat}, i ∈ vs → i < σ.length → (L2.wipe σ vs)[i]? = some none
  | j :: vs, h, l => by
    show ((L2.wipe σ vs).set j none)[i]? = some none
    by_cases e : j = i
    · subst e; exact List.getElem?_set_self (by rw [wipe_len]; exact l)
    · rw [List.getElem?_set_ne e]
      exact wipe_in ((List.mem_cons.mp h).resolve_left fun z => e z.symm) l
theorem But.wipe {S : List Nat} {vs : List Nat} {σ σ2 : L2.St} (b : But S (L2.wipe σ vs) σ2) (h : ∀ i ∈ S, i ∈ vs) : L2.wipe σ2 vs = L2.wipe σ vs := by
  have hl : σ2.length = σ.length := b.1.trans (wipe_len σ vs)
  refine List.ext_getElem? fun i => ?_
  by_cases q : i ∈ vs
  · by_cases l : i < σ.length
    · rw [wipe_in q (by rw [hl]; exact l), wipe_in q l]
    · rw [List.getElem?_eq_none (by rw [wipe_len, hl]; omega), List.getElem?_eq_none (by rw [wipe_len]; omega)]
  · rw [wipe_out q, b.2 i fun z => q (h i z)]
theorem dts_nil : DTs X [] tYs := ⟨fun W tk => ⟨fun pins s σ H Q I ⟨m, env, st, S, R, hp⟩ => pts_nil.run pins s σ H Q I (hp H m .refl S)⟩⟩
theorem dts_one {e : Expr} {c : En → Sto → Rs Bool} (h : DT X e c) : DTs X [e] c := ⟨fun W tk => pts_one (h.pt W tk)⟩
def Wno : WX := fun _ _ _ _ => False
theorem takes_no {X : Cx} : Takes X Wno := fun u s' ⟨a, B, sI, pins, σ, H, cls, d, e, I, nb, up, sky, na, os, ag, w⟩ => w.elim
/-- D is being made -/
def Mp.with (m : Mp) (D : Addr) : Mp := ⟨m.ix, fun a => m.F a ∨ a = D⟩
def Mp.done (m : Mp) (D : Addr) : Mp := ⟨m.ix, fun a => m.F a ∧ a ≠ D⟩
theorem Sim.sub {K : Frg} {m' : Mp} (S : Sim K H m st) (hi : m'.ix = m.ix) (hF : ∀ a, m'.F a → m.F a) : Sim K H m' st := by
  have kp : Kp K H (Off m st.length) H (Off m' st.length) := ⟨fun _ _ h => h, fun _ _ _ h => h, fun a o _ h z => ⟨h, by rw [hi]; exact z.1, fun q => z.2 (hF a q)⟩⟩
  refine ⟨fun i o e => ?_, fun i j => by rw [hi]; exact S.inj i j, fun a q => S.ff a (hF a q), fun i h q => S.fi i h (by rw [hi] at q; exact hF _ q), S.tb⟩
  have h := S.ob i o e
  rw [hi]
  cases o with
  | lst xs => obtain ⟨vs, h1, h2⟩ := h; exact ⟨vs, h1, h2.mv kp⟩
  | dct kvs => obtain ⟨vs, h1, h2⟩ := h; exact ⟨vs, h1, RpK.kp kp _ _ h2⟩
  | dtt kvs => obtain ⟨vs, h1, h2⟩ := h; exact ⟨vs, h1, RpT.kp kp _ _ h2⟩
  | lkd es => exact Rp.mv h kp
  | lkl xs => exact FzL.mv h kp
  | ins C es => exact InAt.mv h kp fun _ _ e => e
theorem off_done {n : Nat} {D : Addr} : ∀ a, Off m n a → Off (m.done D) n a := fun a z => ⟨z.1, fun q => z.2 q.1⟩
theorem Sim.start {K : Frg} {D : Addr} {o : HO} (S : Sim K H m st) (hn : H D = none) (nt : NT o := by exact fun _ z => nomatch z) : Sim K (upd H D o) (m.with D) st ∧ Fol m st.length H (m.with D) st.length (upd H D o) := by
  have g := grow_upd (o := o) hn
  have f : Fol m st.length H (m.with D) st.length (upd H D o) := ⟨fun a _ h => g a _ h, fun a _ _ h => g a _ h, fun a _ _ h _ => g a _ h, fun _ _ => rfl, fun i a b => absurd b (by omega), Nat.le_refl _, domOf g, fun a h =>
    ⟨fun q => q.resolve_right fun e => nn_no hn (e ▸ h), fun q => .inl q⟩⟩
  refine ⟨⟨fun i o e => (S.ob i o e).mv f fun u => g _ u, S.inj, fun a q => ?_, fun i hi q => ?_, S.tb.ext g⟩, f⟩
  · rcases q with q | q
    · exact domOf g a (S.ff a q)
    · rw [q]; exact ⟨o, upd_same, nt⟩
  · rcases q with q | q
    · exact S.fi i hi q
    · exact nn_no hn (by have := S.there hi; rwa [show m.ix i = D from q] at this)
theorem Fol.done {n n2 : Nat} {m2 : Mp} {H2 : Hp} {D : Addr} (f : Fol m n H m2 n2 H2) (hn : ¬ Nn H D) : Fol m n H (m2.done D) n2 H2 :=
  ⟨f.tup, f.frz, f.rest, f.old, f.new, f.le, f.dom, fun a h => ⟨fun q => (f.eF a h).mp q.1, fun q => ⟨(f.eF a h).mpr q, fun e => hn (e ▸ h)⟩⟩⟩
/-- one more item -/
theorem _root_.LamX.Tabs.wr {T : List (Addr × Str)} {D : Addr} {o o' : HO} (t : LamX.Tabs T H) (hD : H D = some o) (ho : (∃ xs, o = .lst xs) ∨ (∃ kvs, o = .dK kvs) ∨ ∃ kvs, o = .dT kvs) : LamX.Tabs T (upd H D o') := fun p hp => by
  obtain ⟨ps, h1, h2, h3⟩ := t p hp
  refine ⟨ps, ?_, h2, fun pos cv hc => ?_⟩
  · rw [upd_ne]; exact h1
    intro e; rw [e, hD] at h1
    rcases ho with ⟨_, rfl⟩ | ⟨_, rfl⟩ | ⟨_, rfl⟩ <;> cases h1
  · obtain ⟨c, e, hq⟩ := h3 pos cv hc
    refine ⟨c, e, ?_⟩
    rw [upd_ne]; exact hq
    intro e2; rw [e2, hD] at hq
    rcases ho with ⟨_, rfl⟩ | ⟨_, rfl⟩ | ⟨_, rfl⟩ <;> cases hq
theorem Kp.push {K : Frg} {n : Nat} {D : Addr} {xs ys : List V} (hF : m.F D) (hD : H D = some (.lst ys)) : Kp K H (Off m n) (upd H D (.lst xs)) (Off m n) := by
  refine ⟨fun a us h => ?_, fun a o u h => ?_, fun a o _ h z => ⟨?_, z⟩⟩
  · rw [upd_ne]; exact h
    intro e; rw [e, hD] at h; cases h
  · rw [upd_ne]; exact h
    intro e; rw [e, hD] at h; cases h
  · rw [upd_ne]; exact h
    exact fun e => z.2 (e ▸ hF)
theorem Sim.push {K : Frg} {D : Addr} {xs ys : List V} (S : Sim K H m st) (hF : m.F D) (hD : H D = some (.lst ys)) : Sim K (upd H D (.lst xs)) m st := by
  have kp := Kp.push (K := K) (n := st.length) (xs := xs) hF hD
  refine ⟨fun i u e => ?_, S.inj, fun a z => ?_, S.fi, S.tb.wr hD (.inl ⟨_, rfl⟩)⟩
  · have h := S.ob i u e
    have hi : i < st.length := (List.getElem?_eq_some_iff.mp e).1
    have hx : m.ix i ≠ D := fun e => S.fi i hi (e ▸ hF)
    cases u with
    | lst xs => obtain ⟨vs, h1, h2⟩ := h; exact ⟨vs, by rw [upd_ne hx]; exact h1, h2.mv kp⟩
    | dct kvs => obtain ⟨vs, h1, h2⟩ := h; exact ⟨vs, by rw [upd_ne hx]; exact h1, RpK.kp kp _ _ h2⟩
    | dtt kvs => obtain ⟨vs, h1, h2⟩ := h; exact ⟨vs, by rw [upd_ne hx]; exact h1, RpT.kp kp _ _ h2⟩
    | lkd es => exact Rp.mv h kp
    | lkl xs => exact FzL.mv h kp
    | ins C es => exact InAt.mv h kp fun _ _ e => by rw [upd_ne hx]; exact e
  · by_cases e : a = D
    · rw [e]; exact ⟨_, upd_same, nt_lst⟩
    · obtain ⟨o, h, nt⟩ := S.ff a z
      exact ⟨o, by rw [upd_ne e]; exact h, nt⟩
theorem Fol.done2 {n n2 : Nat} {m2 : Mp} {H2 : Hp} (D : Addr) (f : Fol m n H m2 n2 H2) : Fol (m.done D) n H (m2.done D) n2 H2 :=
  ⟨f.tup, f.frz, f.rest, f.old, f.new, f.le, f.dom, fun a h => and_congr (f.eF a h) Iff.rfl⟩
theorem Fol.updD {n n2 : Nat} {m2 : Mp} {H2 : Hp} {D : Addr} {o : HO} (f : Fol m n H m2 n2 H2) (hn : ¬ Nn H D) (nt : NT o := by exact fun _ z => nomatch z) : Fol m n H m2 n2 (upd H2 D o) := by
  have nd : ∀ {a o}, H a = some o → NT o → a ≠ D := fun h nt e => hn ⟨_, e ▸ h, nt⟩
  exact ⟨fun a xs h => by rw [upd_ne (nd h fun _ z => nomatch z)]; exact f.tup a xs h, fun a o u h => by rw [upd_ne (nd h fun _ z => nomatch z)]; exact f.frz a o u h, fun a o nt h z => by rw [upd_ne (nd h nt)]; exact f.rest a o nt h z, f.old, f.new, f.le, fun a h => by
    by_cases e : a = D
    · rw [e]; exact ⟨_, upd_same, nt⟩
    · obtain ⟨o2, h2, nt2⟩ := f.dom a h
      exact ⟨o2, by rw [upd_ne e]; exact h2, nt2⟩
  , f.eF⟩
theorem Fol.undone {n n2 : Nat} {m2 : Mp} {H2 : Hp} {D : Addr} (f : Fol m n H (m2.done D) n2 H2) (hn : ¬ Nn H D) : Fol m n H m2 n2 H2 :=
  ⟨f.tup, f.frz, f.rest, f.old, f.new, f.le, f.dom, fun a h => ⟨fun q => (f.eF a h).mp ⟨q, fun e => hn (e ▸ h)⟩, fun q => ((f.eF a h).mpr q).1⟩⟩
/-- a comprehension, the new list at D -/
theorem lc_tLc {E : Prop} {ci : En → Sto → Rs Sc} {g : Wv → En → Option En} {t : En → Sto → Rs Bool} {c : En → Sto → Rs Wv} {vs : List Nat} {S0 : List Nat} {tg : TG} {Q : VK} (hS : ∀ i ∈ S0, i ∈ vs)
    (htg : ∀ v σ H Q, (∃ m n env w env', RWe E X.K H m n v w ∧ EnvR X.K H m n env σ ∧ g w env = some env' ∧ ∀ σ', EnvR X.K H m n env' σ' → But S0 σ σ' → Q σ' H) → tg v σ H Q)
    (S : Sim X.K H m st) (R : EnvR X.K H m st.length env σ)
    (hp : (cLc ci g t c vs env st).post (fun ys st' => ∀ D H' m' xs, ¬ Nn H D → Fol m st.length H (m'.done D) st'.length H' → Sim X.K H' m' st' → m'.F D → H' D = some (.lst xs) → RpA X.K H' (Off m' st'.length) xs ys → Q (.ref D) H') (okX X W m st.length H σ)) :
    tLc (tI E X W ci) tg (tT X Wno t) (tE X Wno c) vs σ H Q := by
  unfold cLc at hp
  rw [Rs.post_bind] at hp
  refine ⟨m, env, st, S, R, Rs.post_mono hp (fun sc st1 q J H1 m1 f1 S1 it => ?_) fun _ _ h => h⟩
  split at q
  · rename_i hlen
    intro D hD
    have hD0 : ¬ Nn H D := fun z => nn_no hD (f1.dom D z)
    obtain ⟨S0', f0⟩ := S1.start (D := D) (o := .lst []) hD
    generalize hW : (fun (i mm : Nat) (Hc : Hp) => mm = sc.xs.length - i ∧ i ≤ sc.xs.length ∧ ∃ m2 st2 acc us, Fol m1 st1.length H1 (m2.done D) st2.length Hc ∧ Sim X.K Hc m2 st2 ∧ m2.F D ∧ Hc D = some (.lst us) ∧ RpA X.K Hc (Off m2 st2.length) us acc ∧ acc.length ≤ i ∧
      (lcL g t c sc.lv (wipeE env vs) (sc.xs.drop i) acc st2).post (fun ys st' => ∀ D H' m' xs, ¬ Nn H D → Fol m st.length H (m'.done D) st'.length H' → Sim X.K H' m' st' → m'.F D → H' D = some (.lst xs) → RpA X.K H' (Off m' st'.length) xs ys → Q (.ref D) H') (okX X W m st.length H σ)) = Wf
    refine ⟨Wf, ⟨_, by rw [← hW]; exact ⟨rfl, Nat.zero_le _, m1.with D, st1, [], [], f0.done (nn_no hD), S0', .inr rfl, upd_same, .nil, Nat.le_refl _, by simpa using q⟩⟩, ?_⟩
    intro i mm Hc w
    rw [← hW] at w
    obtain ⟨rfl, hi2, m2, st2, acc, us, f2, S2, F2, hc2, r2, ha2, q2⟩ := w
    by_cases hlt : i < sc.xs.length
    · rw [List.drop_eq_getElem_cons hlt] at q2
      unfold lcL at q2
      split at q2
      · rename_i hl
        split at q2
        · rename_i env3 he3
          refine .inr ⟨it.go i Hc m2 st2 (f2.undone (nn_no hD)) S2 hl hlt, Wf (i + 1) (sc.xs.length - (i + 1)), fun H' z => ⟨_, by omega, z⟩, fun v H3 y => ?_⟩
          obtain ⟨g3, d, hd, r3⟩ := it.yld i Hc m2 st2 v H3 (f2.undone (nn_no hD)) S2 hl hlt y
          rw [List.getElem?_eq_getElem hlt] at hd
          cases hd
          have fe : Fol m st.length H m2 st2.length H3 := (f1.trans (f2.undone (nn_no hD))).trans (.same g3)
          refine htg _ _ _ _ ⟨m2, st2.length, wipeE env vs, .d sc.xs[i], env3, r3, (R.mv fe).wipe vs, he3, fun σ3 R3 b3 => ⟨b3.wipe hS, ?_⟩⟩
          refine ⟨m2, env3, st2, S2.grow g3, R3, ?_⟩
          split at q2
          · rename_i st4 ht4
            rw [ht4]
            intro H4 m4 f4 S4
            rw [if_pos rfl]
            refine ⟨m4, env3, st4, S4, R3.mv f4, ?_⟩
            split at q2
            · rename_i y5 st5 hc5
              rw [hc5]
              intro v5 H5 m5 f5 S5 r5
              have c3 : H3 D = some (.lst us) := g3 _ _ hc2
              have fD : Fol m2 st2.length Hc m5 st5.length H5 := (Fol.same g3).trans (f4.trans f5)
              have nD : ∀ i, i < st2.length → m2.ix i ≠ D := fun i hi e => S2.fi i hi (e ▸ F2)
              have c5 : H5 D = some (.lst us) := fD.rest _ _ nt_lst hc2 nD
              have F5 : m5.F D := (fD.eF D ⟨_, hc2, nt_lst⟩).mpr F2
              have kp : Kp X.K H5 (Off m5 st5.length) (upd H5 D (.lst (us ++ [v5]))) (Off m5 st5.length) := .push F5 c5
              refine ⟨us, c5, ?_, ?_⟩
              · have : us.length = acc.length := r2.len
                have := line_lim
                omega
              · rw [← hW]
                refine ⟨rfl, hlt, m5, st5, acc ++ [y5], us ++ [v5], ?_, S5.push F5 c5, F5, upd_same, ?_, ?_, q2⟩
                · exact (f2.trans (fD.done2 D)).updD (nn_no hD)
                · exact ((r2.mv fD.kp).app (.cons r5 .nil)).mv kp
                · simp; exact ha2
            · exact q2.elim
          · rename_i st4 ht4
            rw [ht4]
            intro H4 m4 f4 S4
            rw [if_neg Bool.false_ne_true]
            have fD : Fol m2 st2.length Hc m4 st4.length H4 := (Fol.same g3).trans f4
            have nD : ∀ i, i < st2.length → m2.ix i ≠ D := fun i hi e => S2.fi i hi (e ▸ F2)
            have c5 : H4 D = some (.lst us) := fD.rest _ _ nt_lst hc2 nD
            have F5 : m4.F D := (fD.eF D ⟨_, hc2, nt_lst⟩).mpr F2
            rw [← hW]
            exact ⟨rfl, hlt, m4, st4, acc, us, f2.trans (fD.done2 D), S4, F5, c5, r2.mv fD.kp, Nat.le_succ_of_le ha2, q2⟩
          · exact q2.elim
        · exact q2.elim
      · exact q2.elim
    · have e : i = sc.xs.length := by omega
      subst e
      rw [List.drop_length] at q2
      unfold lcL at q2
      split at q2
      · rename_i hl
        exact .inl ⟨it.stop Hc m2 st2 (f2.undone (nn_no hD)) S2 hl, q2 D Hc m2 us hD0 ((f1.trans (f2.undone (nn_no hD))).done hD0) S2 F2 hc2 r2⟩
      · exact q2.elim
  · exact q.elim
end
end
section
variable [Wtp] [Tbl]
/-! ## enumerate and zip over lists and tuples of any mix -/
inductive Kd where
  | l
  | t
namespace Kd
def ob : Kd → Addr → Obj
  | l, a => { cls := .type "list_iterator", data := .fields #[.ref a, .int 0 0] }
  | t, a => { cls := .type "tuple_iterator", data := .fields #[.ref a, .int 0 0] }
def it (q : Kd) (h : Heap) (i a : Addr) (n : Nat) : Prop := match q with
  | l => h.IsListIter i a n
  | t => h.IsTupleIter i a n
def here (q : Kd) (h : Heap) (a : Addr) (xs : Array Value) : Prop := match q with
  | l => h.IsList a xs
  | t => h.IsTuple a xs
def sq (q : Kd) (K : Frg) (H : Hp) (a : Addr) (xs : List V) : Prop := match q with
  | l => SqL K H a xs
  | t => SqT K H a xs
section
variable {q : Kd} {h h' : Heap} {i a : Addr} {n : Nat} {xs : Array Value}
theorem begins (q : Kd) (a : Addr) (xs : Array Value) : Begins (.ref a) (q.ob a) fun h => q.here h a xs := by
  cases q with
  | l => exact begins_list a xs
  | t => exact begins_tuple a xs
theorem free (q : Kd) (a : Addr) : (q.ob a).isFreed = false := by cases q <;> rfl
theorem first (e : h.get? i = some (q.ob a)) : q.it h i a 0 := by
  cases q with
  | l => exact ⟨_, e, rfl, rfl⟩
  | t => exact ⟨_, e, rfl, rfl⟩
theorem draws {prog : Program} {w : World} {A : Around} (q : Kd) (hh : A.handled = none) (hne : a ≠ i) (xs : Array Value) : Draws prog w A i [i, a] xs.size (fun j v => xs[j]? = some v) (fun j h => q.it h i a j ∧ q.here h a xs) := by
  cases q with
  | l => exact .list hh i a hne xs
  | t => exact .tuple hh i a hne xs
theorem it_at (s : q.it h i a n) (k : ∀ o, h.get? i = some o → h'.get? i = some o) : q.it h' i a n := by
  cases q with
  | l => exact Heap.IsListIter.at s k
  | t => exact Heap.IsTupleIter.at s k
theorem it_ob (s : q.it h i a n) : ∃ o, h.get? i = some o ∧ ∀ v, o.data ≠ .cell v := by
  cases q with
  | l => obtain ⟨o, e, _, d⟩ := s; exact ⟨o, e, fun v z => by rw [d] at z; cases z⟩
  | t => obtain ⟨o, e, _, d⟩ := s; exact ⟨o, e, fun v z => by rw [d] at z; cases z⟩
end
section
variable {X : Cx} {q : Kd} {pins : List (Addr × Obj)} {σ : L2.St} {H : Hp} {s : Shared} {a : Addr} {xs ys : List V}
theorem of (I : Inv X pins σ H s) (h : q.sq X.K H a xs) : ∃ us : List Value, Vals xs us ∧ q.here s.heap a us.toArray := by
  cases q with
  | l => obtain ⟨us, r, p, _⟩ := I.list h; exact ⟨us, r, p.isList⟩
  | t => obtain ⟨us, r, p, _⟩ := I.tuple h; exact ⟨us, r, p⟩
theorem inj (I : Inv X pins σ H s) (h : q.sq X.K H a xs) (h' : q.sq X.K H a ys) : xs = ys := by
  cases q with
  | l => exact I.list_inj h h'
  | t => exact I.tuple_inj h h'
theorem apart (I : Inv X pins σ H s) {i : Addr} (hf : FpOk X pins H i) {n : Nat} {b : Addr} (st : q.it s.heap i b n) {us : Array Value} {p : Kd} (h : p.here s.heap a us) : a ≠ i := by
  intro e
  subst e
  cases p <;> cases q <;> (obtain ⟨o, e1, c1, _⟩ := h; obtain ⟨o2, e2, c2, d2⟩ := st; rw [e1] at e2; cases e2; rw [c1] at c2; exact absurd c2 (by decide))
end
theorem other {q : Kd} {h : Heap} {a : Addr} {xs : Array Value} {o : Obj} {T : String} (p : q.here h a xs) (e : h.get? a = some o) (c : o.cls = .type T) (h1 : T ≠ "list") (h2 : T ≠ "tuple") : False := by
  cases q with
  | l => obtain ⟨o', e1, c1, _⟩ := p; rw [e] at e1; cases e1; rw [c] at c1; exact h1 (by cases c1; rfl)
  | t => obtain ⟨o', e1, c1, _⟩ := p; rw [e] at e1; cases e1; rw [c] at c1; exact h2 (by cases c1; rfl)
end Kd
/-- a new pair at each turn -/
def JZ (K : Frg) (p q : Kd) (a b : Addr) : It :=
  ⟨fun i H => ∃ xs ys x y, p.sq K H a xs ∧ q.sq K H b ys ∧ xs[i]? = some x ∧ ys[i]? = some y,
   fun i H v H' => ∃ T x y, v = .ref T ∧ H T = none ∧ H' = upd H T (.tup [x, y]) ∧ (∀ xs, p.sq K H a xs → xs[i]? = some x) ∧ ∀ ys, q.sq K H b ys → ys[i]? = some y,
   fun i H => ∃ xs ys, p.sq K H a xs ∧ q.sq K H b ys ∧ i = min xs.length ys.length⟩
def JE (K : Frg) (p : Kd) (a : Addr) : It :=
  ⟨fun i H => ∃ xs x, p.sq K H a xs ∧ xs[i]? = some x,
   fun i H v H' => ∃ T x, v = .ref T ∧ H T = none ∧ H' = upd H T (.tup [.int (i : Nat), x]) ∧ ∀ xs, p.sq K H a xs → xs[i]? = some x,
   fun i H => ∃ xs, p.sq K H a xs ∧ i = xs.length⟩
section
variable {P : Program} {w : World} {K : Frg} {elts : List Expr} {kk : Nat} {tpos : Pos}
theorem turn_JE (p : Kd) (a e i : Addr) (hei : e ≠ i) : Turn P w K (.Tuple elts kk tpos) (JE K p a) [e, i] e (fun n h => (∃ old, IsEnum h e i ((0 : Int) + (n : Int)) old) ∧ p.it h i a n) where
  mem := by simp
  obj := fun n h st b hb => by
    obtain ⟨⟨old, he⟩, hi⟩ := st
    rcases (show b = e ∨ b = i by simpa using hb) with z | z
    · subst z; exact ⟨_, he, fun v q => nomatch q⟩
    · subst z; exact Kd.it_ob hi
  keep := fun n h h' st k => by
    obtain ⟨⟨old, he⟩, hi⟩ := st
    exact ⟨⟨old, k e (by simp) _ he⟩, Kd.it_at hi fun o q => k i (by simp) o q⟩
  item := by
    intro X hP hw hK hc n pins s σ H E I hf st hg
    subst hP hw hK
    obtain ⟨⟨old, he⟩, hi⟩ := st
    obtain ⟨xs, x, hx, ex⟩ := hg
    obtain ⟨us, rv, hu⟩ := Kd.of I hx
    obtain ⟨u, eu, ru⟩ := rv.get ex
    have hai : a ≠ i := Kd.apart I (hf i (by simp)) hi hu
    have hae : a ≠ e := fun z => Kd.other hu (by rw [z]; exact he) rfl (by decide) (by decide)
    have G := GoesN.enumFrom (elts := elts) (x1 := kk) (pos := tpos) 0 (p.draws (prog := X.prog) (w := X.w) (A := X.A.in1) (i := i) (a := a) (show X.A.in1.handled = none from I.ok.hd hc) hai us.toArray) e hei (by simp [hei, Ne.symm hae]) (by simp)
    have hlt : n < us.toArray.size := by have := (List.getElem?_eq_some_iff.mp eu).1; simpa using this
    refine wpAny_mono (G.goes n s (fun v s2 => ∃ x' H', Inv X pins σ H' s2 ∧ RelV x' v ∧ (JE X.K p a).yld n H x' H' ∧ ((∃ old, IsEnum s2.heap e i ((0 : Int) + ((n + 1 : Nat) : Int)) old) ∧ p.it s2.heap i a (n + 1)) ∧ ∀ b ∈ [e, i], H' b = none) E hlt ⟨⟨old, he⟩, hi, hu⟩ fun v h' tk y st' keep _ => ?_) (fun r s1 ⟨v, e1, q⟩ => ⟨v, e1, q⟩) fun _ _ z => z
    obtain ⟨T, t, x2, ev, hT, ex2, hI⟩ := y
    subst ev
    have e2 : x2 = u := by
      have : us[n]? = some x2 := by simpa using ex2
      rw [eu] at this; cases this; rfl
    subst e2
    refine ⟨.ref T, upd H T (.tup [.int (n : Nat), x]), ?_, rfl, ⟨T, x, rfl, I.hok.fresh hT, rfl, fun ys hy => by rw [Kd.inj I hy hx]; exact ex⟩, ⟨st'.1, st'.2.1⟩, fun b hb => ?_⟩
    · refine I.turnedNew (t' := tk) (ch := [e, i]) keep hf hT ⟨by show 2 ≤ sizeLine; decide, [.int (0 + (n : Int)) t, x2], .cons ⟨t, by simp⟩ (.cons ru .nil), hI⟩
    · have hb' : b ≠ T := fun z => by
        obtain ⟨o, eo, _⟩ : ∃ o, s.heap.get? b = some o ∧ True := by
          rcases (show b = e ∨ b = i by simpa using hb) with z | z
          · subst z; exact ⟨_, he, trivial⟩
          · subst z; obtain ⟨o, eo, _⟩ := Kd.it_ob hi; exact ⟨o, eo, trivial⟩
        have := Heap.lt_size eo
        rw [z] at this
        exact absurd hT (Nat.not_le.mpr this)
      rw [upd_ne hb']
      exact (hf b hb).1
  done := by
    intro X hP hw hK hc n pins s σ H E I hf st hg
    subst hP hw hK
    obtain ⟨⟨old, he⟩, hi⟩ := st
    obtain ⟨xs, hx, en⟩ := hg
    obtain ⟨us, rv, hu⟩ := Kd.of I hx
    have hai : a ≠ i := Kd.apart I (hf i (by simp)) hi hu
    have hae : a ≠ e := fun z => Kd.other hu (by rw [z]; exact he) rfl (by decide) (by decide)
    have G := GoesN.enumFrom (elts := elts) (x1 := kk) (pos := tpos) 0 (p.draws (prog := X.prog) (w := X.w) (A := X.A.in1) (i := i) (a := a) (show X.A.in1.handled = none from I.ok.hd hc) hai us.toArray) e hei (by simp [hei, Ne.symm hae]) (by simp)
    have hn : n = us.toArray.size := by have := rv.length; simp; omega
    subst hn
    refine G.stops s (fun s1 => Inv X pins σ H s1) E ⟨⟨old, he⟩, hi, hu⟩ fun h' tk keep _ => ?_
    exact I.turnedL (t' := tk) (ch := [e, i]) keep hf
  self := fun A n s Q E st h => by
    obtain ⟨⟨old, he⟩, _⟩ := st
    exact wpAny_pyIter_enum he h
theorem turn_JZ (p q : Kd) (a b N : Addr) (la : a < N) (lb : b < N) : Turn P w K (.Tuple elts kk tpos) (JZ K p q a b) [N + 4, N + 2, N + 3, N, N + 1] (N + 4) (fun n h => IsZip h (N + 4) (N + 2) (N + 3) .none ∧ IsTupOf2 h (N + 2) (.ref (N)) (.ref (N + 1)) ∧ (∃ u0 u1, IsTupOf2 h (N + 3) u0 u1) ∧ p.it h (N) a n ∧ q.it h (N + 1) b n) where
  mem := by simp
  obj := fun n h st b' hb' => by
    obtain ⟨hz, hI, ⟨u0, u1, hO⟩, h0, h1⟩ := st
    rcases (show b' = N + 4 ∨ b' = N + 2 ∨ b' = N + 3 ∨ b' = N ∨ b' = N + 1 by simpa using hb') with e | e | e | e | e
    · rw [e]; exact ⟨_, hz, fun v q => nomatch q⟩
    · rw [e]; exact ⟨_, hI, fun v q => nomatch q⟩
    · rw [e]; exact ⟨_, hO, fun v q => nomatch q⟩
    · rw [e]; exact Kd.it_ob h0
    · rw [e]; exact Kd.it_ob h1
  keep := fun n h h' st k => by
    obtain ⟨hz, hI, ⟨u0, u1, hO⟩, h0, h1⟩ := st
    exact ⟨k _ (by simp) _ hz, k _ (by simp) _ hI, ⟨u0, u1, k _ (by simp) _ hO⟩, Kd.it_at h0 fun o q => k _ (by simp) o q, Kd.it_at h1 fun o q => k _ (by simp) o q⟩
  item := by
    intro X hP hw hK hc n pins s σ H E I hf st hg
    subst hP hw hK
    obtain ⟨hz, hI, hO, h0, h1⟩ := st
    obtain ⟨xs, ys, x, y, q0, q1, e0, e1⟩ := hg
    obtain ⟨us0, rv0, hu0⟩ := Kd.of I q0
    obtain ⟨us1, rv1, hu1⟩ := Kd.of I q1
    obtain ⟨w0, ew0, rw0⟩ := rv0.get e0
    obtain ⟨w1, ew1, rw1⟩ := rv1.get e1
    have D0 := p.draws (prog := X.prog) (w := X.w) (A := X.A.in1) (i := N) (a := a) (show X.A.in1.handled = none from I.ok.hd hc) (by have := la; intro e; rw [e] at this; exact absurd this (Nat.not_lt.mpr (by simp))) us0.toArray
    have D1 := q.draws (prog := X.prog) (w := X.w) (A := X.A.in1) (i := N + 1) (a := b) (show X.A.in1.handled = none from I.ok.hd hc) (by have := lb; intro e; rw [e] at this; exact absurd this (Nat.not_lt.mpr (by simp))) us1.toArray
    have G := GoesN.zip2 (elts := elts) (x1 := kk) (pos := tpos) (zip_sep2 (N := N) (fp1 := [a]) (fun d hd => by rw [List.mem_singleton.mp hd]; exact la) (fp2 := [b]) (fun d hd => by rw [List.mem_singleton.mp hd]; exact lb)) D0 D1
    have hlt : n < min us0.toArray.size us1.toArray.size := by
      have l0 := (List.getElem?_eq_some_iff.mp ew0).1
      have l1 := (List.getElem?_eq_some_iff.mp ew1).1
      simp; omega
    refine wpAny_mono (G.goes n s (fun v s2 => ∃ x' H', Inv X pins σ H' s2 ∧ RelV x' v ∧ (JZ X.K p q a b).yld n H x' H' ∧ (IsZip s2.heap (N + 4) (N + 2) (N + 3) .none ∧ IsTupOf2 s2.heap (N + 2) (.ref (N)) (.ref (N + 1)) ∧ (∃ u0 u1, IsTupOf2 s2.heap (N + 3) u0 u1) ∧ p.it s2.heap (N) a (n + 1) ∧ q.it s2.heap (N + 1) b (n + 1)) ∧ ∀ b ∈ [N + 4, N + 2, N + 3, N, N + 1], H' b = none) E hlt ⟨hz, hI, hO, ⟨h0, hu0⟩, ⟨h1, hu1⟩⟩ fun v h' tk y st' keep _ => ?_) (fun r s1 ⟨v, e1, q⟩ => ⟨v, e1, q⟩) fun _ _ z => z
    obtain ⟨T, x2, y2, ev, hT, k0, k1, hI2⟩ := y
    subst ev
    have v0 : x2 = w0 := by
      have : us0[n]? = some x2 := by simpa using k0
      rw [ew0] at this; cases this; rfl
    subst v0
    have v1 : y2 = w1 := by
      have : us1[n]? = some y2 := by simpa using k1
      rw [ew1] at this; cases this; rfl
    subst v1
    obtain ⟨z', I', O', g0, g1⟩ := st'
    refine ⟨.ref T, upd H T (.tup [x, y]), ?_, rfl, ⟨T, x, y, rfl, I.hok.fresh hT, rfl, fun l hl => by rw [Kd.inj I hl q0]; exact e0, fun l hl => by rw [Kd.inj I hl q1]; exact e1⟩, ⟨z', I', O', g0.1, g1.1⟩, fun b' hb' => ?_⟩
    · refine I.turnedNew (t' := tk) (ch := [N + 4, N + 3, N, N + 1]) keep (fun b' hb' => hf b' (by rcases (show b' = N + 4 ∨ b' = N + 3 ∨ b' = N ∨ b' = N + 1 by simpa using hb') with e | e | e | e <;> (rw [e]; simp))) hT ⟨by show 2 ≤ sizeLine; decide, [x2, y2], .cons rw0 (.cons rw1 .nil), hI2⟩
    · have ne : b' ≠ T := fun e => by
        have : ∃ o, s.heap.get? b' = some o := by
          rcases (show b' = N + 4 ∨ b' = N + 2 ∨ b' = N + 3 ∨ b' = N ∨ b' = N + 1 by simpa using hb') with e | e | e | e | e
          · rw [e]; exact ⟨_, hz⟩
          · rw [e]; exact ⟨_, hI⟩
          · obtain ⟨u0, u1, hO⟩ := hO; rw [e]; exact ⟨_, hO⟩
          · rw [e]; obtain ⟨o, eo, _⟩ := Kd.it_ob h0; exact ⟨o, eo⟩
          · rw [e]; obtain ⟨o, eo, _⟩ := Kd.it_ob h1; exact ⟨o, eo⟩
        obtain ⟨o, eo⟩ := this
        have := Heap.lt_size eo
        rw [e] at this
        exact absurd hT (Nat.not_le.mpr this)
      rw [upd_ne ne]
      exact (hf b' hb').1
  done := by
    intro X hP hw hK hc n pins s σ H E I hf st hg
    subst hP hw hK
    obtain ⟨hz, hI, hO, h0, h1⟩ := st
    obtain ⟨xs, ys, q0, q1, en⟩ := hg
    obtain ⟨us0, rv0, hu0⟩ := Kd.of I q0
    obtain ⟨us1, rv1, hu1⟩ := Kd.of I q1
    have D0 := p.draws (prog := X.prog) (w := X.w) (A := X.A.in1) (i := N) (a := a) (show X.A.in1.handled = none from I.ok.hd hc) (by have := la; intro e; rw [e] at this; exact absurd this (Nat.not_lt.mpr (by simp))) us0.toArray
    have D1 := q.draws (prog := X.prog) (w := X.w) (A := X.A.in1) (i := N + 1) (a := b) (show X.A.in1.handled = none from I.ok.hd hc) (by have := lb; intro e; rw [e] at this; exact absurd this (Nat.not_lt.mpr (by simp))) us1.toArray
    have G := GoesN.zip2 (elts := elts) (x1 := kk) (pos := tpos) (zip_sep2 (N := N) (fp1 := [a]) (fun d hd => by rw [List.mem_singleton.mp hd]; exact la) (fp2 := [b]) (fun d hd => by rw [List.mem_singleton.mp hd]; exact lb)) D0 D1
    have hn : n = min us0.toArray.size us1.toArray.size := by
      have l0 := rv0.length
      have l1 := rv1.length
      simp; omega
    subst hn
    refine G.stops s (fun s1 => Inv X pins σ H s1) E ⟨hz, hI, hO, ⟨h0, hu0⟩, ⟨h1, hu1⟩⟩ fun h' tk keep _ => ?_
    exact I.turnedL (t' := tk) (ch := [N + 4, N + 3, N, N + 1]) keep (fun b' hb' => hf b' (by rcases (show b' = N + 4 ∨ b' = N + 3 ∨ b' = N ∨ b' = N + 1 by simpa using hb') with e | e | e | e <;> (rw [e]; simp)))
  self := fun A n s Q E st h => wpAny_pyIter_zip st.1 h
end
end
section
variable [Wtp] [Tbl]
/-! ## the sources of a loop -/
def seqW (w : Wv) (st : Sto) : Option Sc := match w with
  | .d (.list xs) => some ⟨xs, []⟩
  | .d (.tuple xs) => some ⟨xs, []⟩
  | .r i => match st[i]? with
    | some (.lst xs) => some ⟨xs, [(i, xs)]⟩
    | _ => none
  | _ => none
@[simp] theorem seqW_list (xs : List PyData) (st : Sto) : seqW (.d (.list xs)) st = some ⟨xs, []⟩ := rfl
@[simp] theorem seqW_tuple (xs : List PyData) (st : Sto) : seqW (.d (.tuple xs)) st = some ⟨xs, []⟩ := rfl
def sgnD (c : Nat) : PyData := .str ⟨#[c]⟩
/-- the keys of the dict are told: none of them a tuple, where tuples are told plain -/
def kF (es : List (PyData × PyData)) : Bool := (!Wtp.F) || es.all fun x => (keyD x.1).isSome
def cSeq (c : En → Sto → Rs Wv) : En → Sto → Rs Sc := fun env st => (c env st).bind fun w st1 => match w with
  | .d (.str x) => .ok ⟨x.cps.toList.map sgnD, []⟩ st1
  | .d (.dict es) => if kF es then .ok ⟨es.map (·.1), []⟩ st1 else .no
  | w => match seqW w st1 with
    | some sc => .ok sc st1
    | none => .no
def pairD (x y : PyData) : PyData := .tuple [x, y]
def zip3 : List PyData → List PyData → List PyData → List PyData
  | x :: xs, y :: ys, z :: zs => .tuple [x, y, z] :: zip3 xs ys zs
  | _, _, _ => []
def cZip2 (cs : En → Sto → Rs (List Wv)) : En → Sto → Rs Sc := fun env st => (cs env st).bind fun ws st1 => match ws with
  | [u, v] => match seqW u st1, seqW v st1 with
    | some a, some b => .ok ⟨List.zipWith pairD a.xs b.xs, a.lv ++ b.lv⟩ st1
    | _, _ => .no
  | _ => .no
def cZip3 (cs : En → Sto → Rs (List Wv)) : En → Sto → Rs Sc := fun env st => (cs env st).bind fun ws st1 => match ws with
  | [u, v, w] => match seqW u st1, seqW v st1, seqW w st1 with
    | some a, some b, some c => .ok ⟨zip3 a.xs b.xs c.xs, (a.lv ++ b.lv) ++ c.lv⟩ st1
    | _, _, _ => .no
  | _ => .no
def enumD (xs : List PyData) : List PyData := xs.mapIdx fun i x => .tuple [.int (i : Nat), x]
def cEnum (cs : En → Sto → Rs (List Wv)) : En → Sto → Rs Sc := fun env st => (cs env st).bind fun ws st1 => match ws with
  | [u] => match seqW u st1 with
    | some a => .ok ⟨enumD a.xs, a.lv⟩ st1
    | _ => .no
  | _ => .no
def rangeD (lo : Int) (n : Nat) : List PyData := (List.range n).map fun i => .int (lo + (i : Nat))
def downD (lo : Int) (n : Nat) : List PyData := (List.range n).map fun i => .int (lo - (i : Nat))
def rgOk (i : Int) : Bool := decide (-(2 ^ 62) ≤ i) && decide (i < 2 ^ 62)
def cRg1 (cs : En → Sto → Rs (List Wv)) : En → Sto → Rs Sc := fun env st => (cs env st).bind fun ws st1 => match ws with
  | [.d (.int j)] => if rgOk j then .ok ⟨rangeD 0 j.toNat, []⟩ st1 else .no
  | _ => .no
def cRg2 (cs : En → Sto → Rs (List Wv)) : En → Sto → Rs Sc := fun env st => (cs env st).bind fun ws st1 => match ws with
  | [.d (.int i), .d (.int j)] => if rgOk i && rgOk j then .ok ⟨rangeD i (j - i).toNat, []⟩ st1 else .no
  | _ => .no
def cRgD (cs : En → Sto → Rs (List Wv)) : En → Sto → Rs Sc := fun env st => (cs env st).bind fun ws st1 => match ws with
  | [.d (.int i), .d (.int j), .d (.int (-1))] => if rgOk i && rgOk j then .ok ⟨downD i (i - j).toNat, []⟩ st1 else .no
  | _ => .no
/-- what stands at a stays -/
structure HoldsAt (K : Frg) (m : Mp) (n : Nat) (H : Hp) (sc : Sc) (q : Kd) (a : Addr) : Prop where
  at' : ∀ H2 m2 st2, Fol m n H m2 st2.length H2 → Sim K H2 m2 st2 → lvOk sc.lv st2 → ∃ us, q.sq K H2 a us ∧ RpA K H2 (Off m2 st2.length) us sc.xs
section
variable {K : Frg} {m : Mp} {H : Hp} {st : Sto} {n : Nat}
theorem seqW_at {v : V} {w : Wv} {sc : Sc} (S : Sim K H m st) (r : RW K H m st.length v w) (e : seqW w st = some sc) : ∃ a q, v = .ref a ∧ HoldsAt K m st.length H sc q a := by
  unfold seqW at e
  split at e
  · cases e
    cases r with
    | lst h1 h2 => exact ⟨_, .l, rfl, ⟨fun H2 m2 st2 f S2 _ => ⟨_, (f.kp.ls h1).sq, h2.mv f.kp⟩⟩⟩
  · cases e
    cases r with
    | tup h1 h2 => exact ⟨_, .t, rfl, ⟨fun H2 m2 st2 f S2 _ => ⟨_, f.kp.sqt h1.sq, h2.mv f.kp⟩⟩⟩
  · split at e
    · rename_i i _ xs e1
      cases e
      refine ⟨m.ix i, .l, r.2, ⟨fun H2 m2 st2 f S2 l => ?_⟩⟩
      rw [lvOk_one] at l
      obtain ⟨us, h1, h2⟩ := S2.ob i _ l
      rw [f.old i r.1] at h1
      exact ⟨us, .inl (.inl h1), h2⟩
    · cases e
  · cases e
theorem isit_l {sc : Sc} {a : Addr} (h : HoldsAt K m n H sc .l a) : IsIt False K (Itl K a) m n H sc := by
  refine ⟨fun i H2 m2 st2 f S l hi => ?_, fun H2 m2 st2 f S l => ?_, fun i H2 m2 st2 v H3 f S l hi y => ?_⟩
  · obtain ⟨us, q, r⟩ := h.at' H2 m2 st2 f S l
    obtain ⟨v, hv, _⟩ := r.get (List.getElem?_eq_getElem hi)
    exact ⟨us, v, q, hv⟩
  · obtain ⟨us, q, r⟩ := h.at' H2 m2 st2 f S l
    exact ⟨us, q, Nat.le_of_eq r.len⟩
  · obtain ⟨us, q, r⟩ := h.at' H2 m2 st2 f S l
    obtain ⟨rfl, y⟩ := y
    obtain ⟨v', hv, rv⟩ := r.get (List.getElem?_eq_getElem hi)
    have := y us q
    rw [hv] at this
    cases this
    exact ⟨fun _ _ h => h, _, List.getElem?_eq_getElem hi, .inl rv⟩
theorem isit_t {sc : Sc} {a : Addr} (h : HoldsAt K m n H sc .t a) : IsIt False K (Itt K a) m n H sc := by
  refine ⟨fun i H2 m2 st2 f S l hi => ?_, fun H2 m2 st2 f S l => ?_, fun i H2 m2 st2 v H3 f S l hi y => ?_⟩
  · obtain ⟨us, q, r⟩ := h.at' H2 m2 st2 f S l
    obtain ⟨v, hv, _⟩ := r.get (List.getElem?_eq_getElem hi)
    exact ⟨us, v, q, hv⟩
  · obtain ⟨us, q, r⟩ := h.at' H2 m2 st2 f S l
    exact ⟨us, q, Nat.le_of_eq r.len⟩
  · obtain ⟨us, q, r⟩ := h.at' H2 m2 st2 f S l
    obtain ⟨rfl, y⟩ := y
    obtain ⟨v', hv, rv⟩ := r.get (List.getElem?_eq_getElem hi)
    have := y us q
    rw [hv] at this
    cases this
    exact ⟨fun _ _ h => h, _, List.getElem?_eq_getElem hi, .inl rv⟩
theorem isit_s {x : Str} : IsIt False K (Its x) m n H ⟨x.cps.toList.map sgnD, []⟩ := by
  refine ⟨fun i H2 m2 st2 f S l hi => by show i < x.cps.size; simpa using hi, fun H2 m2 st2 f S l => by show x.cps.size ≤ _; simp, fun i H2 m2 st2 v H3 f S l hi y => ?_⟩
  obtain ⟨rfl, c, hc, rfl⟩ := y
  exact ⟨fun _ _ h => h, sgnD c, by simp [hc], .inl (.str _)⟩
/-! ### a dict's keys -/
theorem rp_key {Z : Addr → Prop} {c : PyData} {k : Key} (h : keyD c = some k) : Rp K H Z (kV k) c := by
  cases c <;> first | (cases h; first | exact .int _ | exact .str _) | cases h
theorem rp_keys {Z : Addr → Prop} : ∀ {ds : List PyData} {ks : List Key}, keysD ds = some ks → RpA K H Z (ks.map kV) ds
  | [], _, e => by cases e; exact .nil
  | d :: ds, _, e => by
    unfold keysD at e
    split at e
    · rename_i k0 ks e1 e2
      cases e
      exact .cons (rp_key e1) (rp_keys e2)
    · cases e
theorem RpK.at' {Z : Addr → Prop} : ∀ {kvs : List (Key × V)} {es : List (PyData × PyData)} {i : Nat} {k : Key} {v : V}, RpK K H Z kvs es → kvs[i]? = some (k, v) → ∃ c d, es[i]? = some (c, d) ∧ keyD c = some k ∧ Rp K H Z v d
  | _, _, _, _, _, .nil, e => by simp at e
  | _, _, 0, _, _, .cons h0 h1 _, e => by simp at e; obtain ⟨rfl, rfl⟩ := e; exact ⟨_, _, rfl, h0, h1⟩
  | _, _, i + 1, _, _, .cons _ _ h2, e => by simpa using RpK.at' h2 (i := i) (by simpa using e)
theorem RpT.at' {Z : Addr → Prop} : ∀ {kvs : List (List Key × V)} {es : List (PyData × PyData)} {i : Nat} {k : List Key} {v : V}, RpT K H Z kvs es → kvs[i]? = some (k, v) → ∃ c d, es[i]? = some (c, d) ∧ tkD c = some k ∧ Rp K H Z v d
  | _, _, _, _, _, .nil, e => by simp at e
  | _, _, 0, _, _, .cons h0 h1 _, e => by simp at e; obtain ⟨rfl, rfl⟩ := e; exact ⟨_, _, rfl, h0, h1⟩
  | _, _, i + 1, _, _, .cons _ _ h2, e => by simpa using RpT.at' h2 (i := i) (by simpa using e)
theorem isit_k {a : Addr} {o : Obj} {kvs : List (Key × V)} {es : List (PyData × PyData)} (ha : H a = some (.frz o (.dK kvs))) {Z : Addr → Prop} (h : RpK K H Z kvs es) : IsIt False K (Itk a o kvs) m n H ⟨es.map (·.1), []⟩ := by
  have hl : kvs.length = es.length := h.len
  refine ⟨fun i H2 m2 st2 f S l hi => ⟨f.frz _ _ _ ha, by simpa [hl] using hi⟩, fun H2 m2 st2 f S l => ⟨f.frz _ _ _ ha, by simp [hl]⟩, fun i H2 m2 st2 v H3 f S l hi y => ?_⟩
  obtain ⟨rfl, k, v', e, rfl⟩ := y
  obtain ⟨c, d, e1, e2, _⟩ := h.at' e
  exact ⟨fun _ _ h => h, c, by simp [e1], .inl (rp_key e2)⟩
theorem kF_no {K : Frg} {H : Hp} {Z : Addr → Prop} {kvs : List (List Key × V)} {es : List (PyData × PyData)} {i : Nat} {k : List Key} {v : V} (h : RpT K H Z kvs es) (hk : kF es = true) (e : kvs[i]? = some (k, v)) : Wtp.F = false := by
  obtain ⟨c, d, e1, e2, _⟩ := h.at' e
  unfold kF at hk
  cases hF : Wtp.F
  · rfl
  · simp only [hF, Bool.not_true, Bool.false_or] at hk
    have := List.all_eq_true.mp hk _ (List.mem_of_getElem? e1)
    cases c <;> first | (simp [keyD] at this; done) | cases e2
theorem isit_kt {a : Addr} {o : Obj} {kvs : List (List Key × V)} {es : List (PyData × PyData)} (ha : H a = some (.frz o (.dT kvs))) {Z : Addr → Prop} (h : RpT K H Z kvs es) (hF : ∀ (i : Nat) (k : List Key) (v : V), kvs[i]? = some (k, v) → Wtp.F = false) : IsIt False K (Itkt a o kvs) m n H ⟨es.map (·.1), []⟩ := by
  have hl : kvs.length = es.length := h.len
  refine ⟨fun i H2 m2 st2 f S l hi => ⟨f.frz _ _ _ ha, by simpa [hl] using hi⟩, fun H2 m2 st2 f S l => ⟨f.frz _ _ _ ha, by simp [hl]⟩, fun i H2 m2 st2 v H3 f S l hi y => ?_⟩
  obtain ⟨rfl, k, v', q, e, rfl, hq⟩ := y
  obtain ⟨c, d, e1, e2, _⟩ := h.at' e
  refine ⟨fun _ _ h => h, c, by simp [e1], ?_⟩
  cases c with
  | tuple ds => exact .inl (.tup (.inl ⟨hF _ _ _ e, hq⟩) (rp_keys e2))
  | _ => cases e2
theorem isit_r {lo : Int} {c : Nat} : IsIt False K (Itr lo c) m n H ⟨rangeD lo c, []⟩ := by
  refine ⟨fun i H2 m2 st2 f S l hi => by show i < c; simpa [rangeD] using hi, fun H2 m2 st2 f S l => by show c ≤ _; simp [rangeD], fun i H2 m2 st2 v H3 f S l hi y => ?_⟩
  obtain ⟨rfl, rfl⟩ := y
  exact ⟨fun _ _ h => h, .int (lo + (i : Nat)), by
    have hi : i < c := by simpa [rangeD] using hi
    simp [rangeD, hi], .inl (.int _)⟩
theorem isit_e {sc : Sc} {a : Addr} {q : Kd} (h : HoldsAt K m n H sc q a) : IsIt True K (JE K q a) m n H ⟨enumD sc.xs, sc.lv⟩ := by
  have hl : (enumD sc.xs).length = sc.xs.length := by simp [enumD]
  refine ⟨fun i H2 m2 st2 f S l hi => ?_, fun H2 m2 st2 f S l => ?_, fun i H2 m2 st2 v H3 f S l hi y => ?_⟩
  · obtain ⟨us, q, r⟩ := h.at' H2 m2 st2 f S l
    obtain ⟨v, hv, _⟩ := r.get (List.getElem?_eq_getElem (show i < sc.xs.length from hl ▸ hi))
    exact ⟨us, v, q, hv⟩
  · obtain ⟨us, q, r⟩ := h.at' H2 m2 st2 f S l
    exact ⟨us, q, hl.trans r.len.symm⟩
  · obtain ⟨us, q, r⟩ := h.at' H2 m2 st2 f S l
    have hi : i < sc.xs.length := hl ▸ hi
    obtain ⟨T, x, rfl, hn, rfl, y⟩ := y
    obtain ⟨v', hv, rv⟩ := r.get (List.getElem?_eq_getElem hi)
    have := y us q
    rw [hv] at this
    cases this
    have g := grow_upd (o := .tup [V.int (i : Nat), x]) hn
    refine ⟨g, .tuple [.int (i : Nat), sc.xs[i]], by simp [enumD, hi], .inr ⟨trivial, _, _, _, rfl, rfl, .inl (.inl upd_same), .cons (.int _) (.cons (rv.mv (Fol.same (m := m2) (n := st2.length) g).kp) .nil)⟩⟩
theorem isit_z {sc sd : Sc} {a b : Addr} {p q : Kd} (h : HoldsAt K m n H sc p a) (h' : HoldsAt K m n H sd q b) : IsIt True K (JZ K p q a b) m n H ⟨List.zipWith pairD sc.xs sd.xs, sc.lv ++ sd.lv⟩ := by
  have hl : (List.zipWith pairD sc.xs sd.xs).length = min sc.xs.length sd.xs.length := List.length_zipWith
  refine ⟨fun i H2 m2 st2 f S l hi => ?_, fun H2 m2 st2 f S l => ?_, fun i H2 m2 st2 v H3 f S l hi y => ?_⟩
  · rw [show lvOk _ st2 = _ from lvOk_app _ _ _] at l
    obtain ⟨us, q, r⟩ := h.at' H2 m2 st2 f S l.1
    obtain ⟨us', q', r'⟩ := h'.at' H2 m2 st2 f S l.2
    have hi : i < min sc.xs.length sd.xs.length := hl ▸ hi
    obtain ⟨v, hv, _⟩ := r.get (List.getElem?_eq_getElem (show i < sc.xs.length by omega))
    obtain ⟨v', hv', _⟩ := r'.get (List.getElem?_eq_getElem (show i < sd.xs.length by omega))
    exact ⟨us, us', v, v', q, q', hv, hv'⟩
  · rw [show lvOk _ st2 = _ from lvOk_app _ _ _] at l
    obtain ⟨us, q, r⟩ := h.at' H2 m2 st2 f S l.1
    obtain ⟨us', q', r'⟩ := h'.at' H2 m2 st2 f S l.2
    exact ⟨us, us', q, q', by rw [r.len, r'.len]; exact hl⟩
  · rw [show lvOk _ st2 = _ from lvOk_app _ _ _] at l
    obtain ⟨us, q, r⟩ := h.at' H2 m2 st2 f S l.1
    obtain ⟨us', q', r'⟩ := h'.at' H2 m2 st2 f S l.2
    have hi : i < min sc.xs.length sd.xs.length := hl ▸ hi
    have i1 : i < sc.xs.length := by omega
    have i2 : i < sd.xs.length := by omega
    obtain ⟨T, x, x', rfl, hn, rfl, y, y'⟩ := y
    obtain ⟨v, hv, rv⟩ := r.get (List.getElem?_eq_getElem i1)
    obtain ⟨v', hv', rv'⟩ := r'.get (List.getElem?_eq_getElem i2)
    have e := y us q
    rw [hv] at e
    cases e
    have e := y' us' q'
    rw [hv'] at e
    cases e
    have g := grow_upd (o := .tup [x, x']) hn
    have kp := (Fol.same (m := m2) (n := st2.length) g).kp (K := K)
    exact ⟨g, pairD sc.xs[i] sd.xs[i], by simp [List.getElem?_zipWith, i1, i2], .inr ⟨trivial, _, _, _, rfl, rfl, .inl (.inl upd_same), .cons (rv.mv kp) (.cons (rv'.mv kp) .nil)⟩⟩
end
/-! ### the rules -/
section
variable {M : Md} {X : Cx} {B : Tb} {k : Nat} {pins : List (Addr × Obj)} {σ : L2.St} {H : Hp} {s : Shared} {m : Mp} {env : En} {st : Sto} {W : WX} {pos p : Pos} {tg : Expr}
theorem PI.imp {e : Expr} {t t' : TI} (h : PI X tg e t) (q : ∀ σ H R, t' σ H R → t σ H R) : PI X tg e t' := ⟨fun pins s σ H R I x => h.run pins s σ H R I (q σ H R x)⟩
theorem di_seq {e : Expr} {ce : En → Sto → Rs Wv} (he : DE X e ce) : DI X tg e (cSeq ce) := by
  refine ⟨fun W tk => ⟨fun pins s σ H R I ⟨m, env, st, S, Re, hp⟩ => ?_⟩⟩
  unfold cSeq at hp
  rw [Rs.post_bind] at hp
  cases ec : ce env st with
  | no => rw [ec] at hp; exact hp.elim
  | ex x st1 =>
    rw [ec] at hp
    exact (pi_list (he.pe W tk)).run pins s σ H R I ⟨m, env, st, S, Re, by rw [ec]; exact hp⟩
  | ok w st1 =>
    rw [ec] at hp
    simp only [Rs.post_ok] at hp
    split at hp
    · rename_i x
      refine (pi_str (he.pe W tk)).run pins s σ H R I ⟨m, env, st, S, Re, ?_⟩
      rw [ec]
      intro v H1 m1 f1 S1 r1
      cases r1
      exact ⟨x, rfl, hp _ H1 m1 f1 S1 isit_s⟩
    · rename_i es
      split at hp
      · rename_i hk
        refine (pi_keys (he.pe W tk)).run pins s σ H R I ⟨m, env, st, S, Re, ?_⟩
        rw [ec]
        intro v H1 m1 f1 S1 r1
        cases r1 with
        | dic h1 h2 => exact ⟨_, _, rfl, .inl ⟨_, h1, hp _ H1 m1 f1 S1 (isit_k h1 h2)⟩⟩
        | dit h1 h2 => exact ⟨_, _, rfl, .inr ⟨_, h1, hp _ H1 m1 f1 S1 (isit_kt h1 h2 (fun i k v e => kF_no h2 hk e))⟩⟩
      · exact hp.elim
    · split at hp
      · rename_i sc esc
        have key : ∀ v H1 m1, Fol m st.length H m1 st1.length H1 → Sim X.K H1 m1 st1 → RW X.K H1 m1 st1.length v w → ∃ a q, v = .ref a ∧ HoldsAt X.K m1 st1.length H1 sc q a := fun v H1 m1 f1 S1 r1 => seqW_at S1 r1 esc
        by_cases hq : ∃ xs, w = .d (.tuple xs)
        · obtain ⟨xs, rfl⟩ := hq
          cases esc
          refine (pi_tup (he.pe W tk)).run pins s σ H R I ⟨m, env, st, S, Re, ?_⟩
          rw [ec]
          intro v H1 m1 f1 S1 r1
          cases r1 with
          | tup h1 h2 => exact ⟨_, rfl, ⟨_, h1.sq⟩, hp _ H1 m1 f1 S1 (isit_t ⟨fun H2 m2 st2 f S2 _ => ⟨_, f.kp.sqt h1.sq, h2.mv f.kp⟩⟩)⟩
        · refine (pi_list (he.pe W tk)).run pins s σ H R I ⟨m, env, st, S, Re, ?_⟩
          rw [ec]
          intro v H1 m1 f1 S1 r1
          unfold seqW at esc
          split at esc
          · cases esc
            cases r1 with
            | lst h1 h2 => exact ⟨_, rfl, ⟨_, h1.sq⟩, hp _ H1 m1 f1 S1 (isit_l ⟨fun H2 m2 st2 f S2 _ => ⟨_, (f.kp.ls h1).sq, h2.mv f.kp⟩⟩)⟩
          · exact absurd ⟨_, rfl⟩ hq
          · split at esc
            · rename_i i _ _ _ xs e1
              cases esc
              obtain ⟨us, h1, h2⟩ := S1.ob i _ e1
              refine ⟨m1.ix i, r1.2, ⟨us, .inl (.inl h1)⟩, hp _ H1 m1 f1 S1 (isit_l ⟨fun H2 m2 st2 f S2 l => ?_⟩)⟩
              rw [lvOk_one] at l
              obtain ⟨us2, g1, g2⟩ := S2.ob i _ l
              rw [f.old i r1.1] at g1
              exact ⟨us2, .inl (.inl g1), g2⟩
            · cases esc
          · cases esc
      · exact hp.elim
theorem rws1 {K : Frg} {n : Nat} {vs : List V} {w : Wv} (h : RWs K H m n vs [w]) : ∃ v, vs = [v] ∧ RW K H m n v w := by
  cases h with | cons h1 h2 => cases h2; exact ⟨_, rfl, h1⟩
theorem rws2 {K : Frg} {n : Nat} {vs : List V} {w w' : Wv} (h : RWs K H m n vs [w, w']) : ∃ v v', vs = [v, v'] ∧ RW K H m n v w ∧ RW K H m n v' w' := by
  cases h with | cons h1 h2 => obtain ⟨v', rfl, h3⟩ := rws1 h2; exact ⟨_, v', rfl, h1, h3⟩
theorem rgOk_iff {i : Int} (h : rgOk i = true) : -(2 ^ 62) ≤ i ∧ i < 2 ^ 62 := by
  unfold rgOk at h
  simpa using h
theorem di_range1 (c : Cxt M X B k) {a : Expr} {cs : En → Sto → Rs (List Wv)} (j : Nat) (hg : B.gs[j]? = some ("range" : Str)) (hm : M.mg "range" = none) (ha : DA X [a] cs) (hs : starEach [a] X.env = [(false, eval a X.env)] := by rfl) : DI X tg (.Call (.Name "range" p) [a] [] pos) (cRg1 cs) := by
  refine ⟨fun W tk => PI.imp (pi_range1 (c.gl j _ hg) (by rw [c.mg]; exact hm) (ha.pa W tk) hs) fun σ H R ⟨m, env, st, S, Re, hp⟩ => ?_⟩
  unfold cRg1 at hp
  rw [Rs.post_bind] at hp
  refine ⟨m, env, st, S, Re, Rs.post_mono hp (fun ws st1 q vs H1 m1 f1 S1 r1 => ?_) fun _ _ q => q⟩
  split at q
  · rename_i i
    split at q
    · rename_i hi
      obtain ⟨h1, h2⟩ := rgOk_iff hi
      obtain ⟨v, rfl, r⟩ := rws1 r1
      cases r
      exact ⟨i, rfl, h1, h2, q _ H1 m1 f1 S1 isit_r⟩
    · exact q.elim
  · exact q.elim
end
end
section
variable [Wtp] [Tbl]
theorem args_init2 (obj a : Value) : argsOk "object.__init__" ⟨[obj, a], []⟩ := F.args_object_init_2 obj a
/-- enumerate(v) over whatever iter(v) makes -/
theorem enum_made {v : Value} {o : Obj} {Hh : Heap → Prop} (Bg : Begins v o Hh) :
    Meets (Builtin.«enumerate.__new__» ⟨[.type "enumerate", v], []⟩) (fun _ Rr sh => Hh sh.heap ∧
      Rr (.ok (.ret (.ref (sh.heap.push o).objs.size))) { sh with heap := (sh.heap.push o).push { cls := .type "enumerate", data := .fields #[.none, .bool false, .ref sh.heap.objs.size, rawInt 0, .none, .none] } }) :=
  .of_wp fun prog w A Rr sh hyp => by
    obtain ⟨hp, g, d, tk, os⟩ := sh
    obtain ⟨h1, hyp⟩ := hyp
    have sb := sub_enumerate
    have qi : ∀ {A' : Around} {E' : Value → Shared → Prop} {Q' : Value → Shared → Prop}, Q' (.ref hp.objs.size) ⟨hp.push o, g, d, tk, os⟩ → wpAny (model prog w) A' (pyIter v) Q' E' ⟨hp, g, d, tk, os⟩ :=
      fun z => Bg.iter prog w _ _ ⟨hp, g, d, tk, os⟩ _ h1 z
    wp_walk using qi
    refine wpAny_stack_any fun st => wpAny_pure ?_
    split
    · rename_i c5 _ _ _ _ _
      cases (c5 == Value.type "enumerate") <;> (wp_walk using qi; exact ⟨_, rfl, hyp⟩)
    · wp_walk using qi
      exact ⟨_, rfl, hyp⟩
section
variable {prog : Program} {w : World} {A : Around} {E : Value → Shared → Prop} {s : Shared}
theorem enum_one {v : Value} {o : Obj} {Hh : Heap → Prop} {Q : Value → Shared → Prop} (Bg : Begins v o Hh) (h1 : Hh s.heap)
    (h : ∀ h', IsEnum h' (s.heap.objs.size + 1) s.heap.objs.size 0 .none → h'.get? s.heap.objs.size = some o → (∀ b ob, s.heap.get? b = some ob → h'.get? b = some ob) → Q (.ref (s.heap.objs.size + 1)) { s with heap := h' }) :
    wpAny (model prog w) A (call (.type "enumerate") [v]) Q E s := by
  refine callType_new F.called_enumerate (by decide) (F.typeCall_enumerate_1 _) (F.newCall_enumerate_1 _) (fun obj => args_init2 obj _) F.entry_enumerate_new (enum_made Bg) ⟨h1, ?_⟩
  have sz : (s.heap.push o).objs.size = s.heap.objs.size + 1 := Heap.size_push ..
  have he := Heap.get?_push_size (s.heap.push o) (o := { cls := .type "enumerate", data := .fields #[.none, .bool false, .ref s.heap.objs.size, rawInt 0, .none, .none] }) rfl
  rw [sz] at he
  show _ ∧ _
  rw [sz]
  exact ⟨⟨_, he, rfl⟩, h _ he (Heap.get?_push_of_some _ (Heap.get?_push_size _ Bg.free)) fun b ob x => Heap.get?_push_of_some _ (Heap.get?_push_of_some _ x)⟩
end
section
variable {M : Md} {X : Cx} {B : Tb} {k : Nat} {pins : List (Addr × Obj)} {σ : L2.St} {H : Hp} {s : Shared} {m : Mp} {env : En} {st : Sto} {W : WX} {pos p tpos : Pos} {elts : List Expr} {kk : Nat}
theorem HoldsAt.now {sc : Sc} {q : Kd} {a : Addr} (h : HoldsAt X.K m st.length H sc q a) (S : Sim X.K H m st) (l : lvOk sc.lv st) : ∃ us, q.sq X.K H a us := by
  obtain ⟨us, h1, _⟩ := h.at' H m st .refl S l
  exact ⟨us, h1⟩
theorem seqW_lv {w : Wv} {sc : Sc} (e : seqW w st = some sc) : lvOk sc.lv st := by
  unfold seqW at e
  split at e
  · cases e; simp
  · cases e; simp
  · split at e
    · cases e; rw [lvOk_one]; assumption
    · cases e
  · cases e
theorem here_lt {q : Kd} {a : Addr} {us : Array Value} (h : q.here s.heap a us) : a < s.heap.objs.size := by
  cases q <;> (obtain ⟨o, e, _⟩ := h; exact Heap.lt_size e)
theorem di_enum (c : Cxt M X B k) {e : Expr} {cs : En → Sto → Rs (List Wv)} (j : Nat) (hg : B.gs[j]? = some ("enumerate" : Str)) (hm : M.mg "enumerate" = none) (ha : DA X [e] cs) (hs : starEach [e] X.env = [(false, eval e X.env)] := by rfl) :
    DIE True X (.Tuple elts kk tpos) (.Call (.Name "enumerate" p) [e] [] pos) (cEnum cs) := by
  refine ⟨fun W tk => ⟨fun pins s σ H R I ⟨m, env, st, S, Re, hp⟩ => ?_⟩⟩
  unfold cEnum at hp
  rw [Rs.post_bind] at hp
  refine Call_ (ld_blt I (c.gl j _ hg) (by rw [c.mg]; exact hm) boot_enumerate (PyProof.Rows.callWith_type1 (ha.go tk I S Re pos (Rs.post_mono hp (fun ws st1 q vs H1 m1 us s1 I1 rv f1 S1 r1 => ?_) fun _ _ q => q)) hs rfl))
  split at q
  · split at q
    · rename_i w sc esc
      obtain ⟨v, rfl, r⟩ := rws1 r1
      obtain ⟨a, kd, rfl, h⟩ := seqW_at S1 r esc
      cases rv with
      | cons rv rn =>
        cases rn
        cases rv
        obtain ⟨xs, hx⟩ := h.now S1 (seqW_lv esc)
        obtain ⟨us, _, hu⟩ := Kd.of I1 hx
        refine enum_one (kd.begins a us.toArray) hu fun h' he hi hk => wpAny_pyIter_enum he ?_
        have I2 : Inv X pins σ H1 { s1 with heap := h' } := I1.kept (t' := s1.toks) hk
        refine ⟨s1.heap.objs.size + 1, [s1.heap.objs.size + 1, s1.heap.objs.size], _, _, H1, rfl, I2, turn_JE kd a _ _ (Nat.succ_ne_self _), ⟨⟨.none, he⟩, Kd.first hi⟩, fun b hb => ?_, q _ H1 m1 f1 S1 (isit_e h)⟩
        have le : s1.heap.objs.size ≤ b := by
          rcases (show b = s1.heap.objs.size + 1 ∨ b = s1.heap.objs.size by simpa using hb) with z | z
          · rw [z]; exact Nat.le_succ _
          · rw [z]; exact Nat.le_refl _
        exact I1.fpOk le (I1.hok.fresh le)
    · exact q.elim
  · exact q.elim
theorem di_zip2 (c : Cxt M X B k) {e e2 : Expr} {cs : En → Sto → Rs (List Wv)} (j : Nat) (hg : B.gs[j]? = some ("zip" : Str)) (hm : M.mg "zip" = none) (ha : DA X [e, e2] cs)
    (hs : starEach [e, e2] X.env = (false, eval e X.env) :: starEach [e2] X.env := by rfl) (hpl : (backTo pos (starEach [e2] X.env)).any (·.1) = false := by rfl) :
    DIE True X (.Tuple elts kk tpos) (.Call (.Name "zip" p) [e, e2] [] pos) (cZip2 cs) := by
  refine ⟨fun W tk => ⟨fun pins s σ H R I ⟨m, env, st, S, Re, hp⟩ => ?_⟩⟩
  unfold cZip2 at hp
  rw [Rs.post_bind] at hp
  refine Call_ (ld_blt I (c.gl j _ hg) (by rw [c.mg]; exact hm) PyProof.Rows.boot_zip (PyProof.Rows.callWith_type1 (ha.go tk I S Re pos (Rs.post_mono hp (fun ws st1 q vs H1 m1 us s1 I1 rv f1 S1 r1 => ?_) fun _ _ q => q)) hs hpl))
  split at q
  · split at q
    · rename_i sc sd esc esd
      obtain ⟨v, v', rfl, r, r'⟩ := rws2 r1
      obtain ⟨a, kd, rfl, h⟩ := seqW_at S1 r esc
      obtain ⟨b, kd', rfl, h'⟩ := seqW_at S1 r' esd
      cases rv with
      | cons rv rn =>
        cases rn with
        | cons rv' rn =>
          cases rn
          cases rv
          cases rv'
          obtain ⟨xs, hx⟩ := h.now S1 (seqW_lv esc)
          obtain ⟨us, _, hu⟩ := Kd.of I1 hx
          obtain ⟨xs', hx'⟩ := h'.now S1 (seqW_lv esd)
          obtain ⟨us', _, hu'⟩ := Kd.of I1 hx'
          refine zip_begins2 (kd.begins a us.toArray) (kd'.begins b us'.toArray) hu hu' fun h'' hz hT hO i1 i2 _ hk => wpAny_pyIter_zip hz ?_
          have I2 : Inv X pins σ H1 { s1 with heap := h'' } := I1.kept (t' := s1.toks) hk
          refine ⟨s1.heap.objs.size + 4, [s1.heap.objs.size + 4, s1.heap.objs.size + 2, s1.heap.objs.size + 3, s1.heap.objs.size, s1.heap.objs.size + 1], _, _, H1, rfl, I2, turn_JZ kd kd' a b _ (here_lt hu) (here_lt hu'), ⟨hz, hT, ⟨_, _, hO⟩, Kd.first i1, Kd.first i2⟩, fun d hd => ?_, q _ H1 m1 f1 S1 (isit_z h h')⟩
          have le : s1.heap.objs.size ≤ d := by
            rcases (show d = s1.heap.objs.size + 4 ∨ d = s1.heap.objs.size + 2 ∨ d = s1.heap.objs.size + 3 ∨ d = s1.heap.objs.size ∨ d = s1.heap.objs.size + 1 by simpa using hd) with z | z | z | z | z <;> (rw [z]; first | exact Nat.le_add_right _ _ | exact Nat.le_refl _)
          exact I1.fpOk le (I1.hok.fresh le)
    · exact q.elim
  · exact q.elim
/-! ## comprehensions -/
/-- the parts of a comprehension, its names at vs -/
structure LcOk (E : Prop) (X : Cx) (elt tg iter : Expr) (ifs : List Expr) (scope : Scope) (own : List (Str × Nat)) (ci : En → Sto → Rs Sc) (g : Wv → En → Option En) (t : En → Sto → Rs Bool) (c : En → Sto → Rs Wv) : Prop where
  hi : DIE E X tg iter ci
  ok : BlkOk X.N X.env.scope scope own
  S0 : ∃ S0 : List Nat, (∀ i ∈ S0, i ∈ own.map (·.2)) ∧ ∀ (s : Shared) (H : Hp) (C : Addr) (cl : List (Str × Addr)) (fp : List Addr), DGE E (X.blk s H scope (compEnvC scope cl C X.env) fp) S0 tg g
  ht : ∀ (s : Shared) (H : Hp) (C : Addr) (cl : List (Str × Addr)) (fp : List Addr), DTs (X.blk s H scope (compEnvC scope cl C X.env) fp) ifs t
  he : ∀ (s : Shared) (H : Hp) (C : Addr) (cl : List (Str × Addr)) (fp : List Addr), DE (X.blk s H scope (compEnvC scope cl C X.env) fp) elt c
  hs : ∀ x, foldedSetIterable iter X.env x = pure x
theorem lc_ok {E : Prop} (cx : Cxt M X B k) {elt tg iter : Expr} {ifs : List Expr} {scope : Scope} {ci : En → Sto → Rs Sc} {g : Wv → En → Option En} {t : En → Sto → Rs Bool} {c : En → Sto → Rs Wv} (own : List (Str × Nat)) (us ls : List Nat) (gs cs : List Str)
    (hb : blkT B us ls gs cs scope own = true) (hi : DIE E X tg iter ci) (hS : (ls.all fun i => (own.map (·.2)).contains i) = true)
    (hg : ∀ X' : Cx, Cxt M X' (B.blk us ls gs cs) k → DGE E X' ls tg g) (ht : ∀ X' : Cx, Cxt M X' (B.blk us ls gs cs) k → DTs X' ifs t)
    (he : ∀ X' : Cx, Cxt M X' (B.blk us ls gs cs) k → DE X' elt c) (hs : ∀ x, foldedSetIterable iter X.env x = pure x := by intro _; rfl) : LcOk E X elt tg iter ifs scope own ci g t c :=
  ⟨hi, cx.blkOk hb, ⟨ls, fun i h => by simpa using (List.all_eq_true.mp hS) i h, fun s H C cl fp => hg _ (cx.blk hb s H C cl fp)⟩, fun s H C cl fp => ht _ (cx.blk hb s H C cl fp), fun s H C cl fp => he _ (cx.blk hb s H C cl fp), hs⟩
section
variable {elt tg iter : Expr} {ifs : List Expr} {scope : Scope} {own : List (Str × Nat)} {ci : En → Sto → Rs Sc} {g : Wv → En → Option En} {t : En → Sto → Rs Bool} {c : En → Sto → Rs Wv} {vs : List Nat}
theorem lcOk_tg {E : Prop} {S0 : List Nat} (h : ∀ (s : Shared) (H : Hp) (C : Addr) (cl : List (Str × Addr)) (fp : List Addr), DGE E (X.blk s H scope (compEnvC scope cl C X.env) fp) S0 tg g) :
    ∀ (s : Shared) (H : Hp) (C : Addr) (cl : List (Str × Addr)) (fp : List Addr), PG (X.blk s H scope (compEnvC scope cl C X.env) fp) tg (fun v σ H Q => ∃ m n env w env', RWe E X.K H m n v w ∧ EnvR X.K H m n env σ ∧ g w env = some env' ∧ ∀ σ', EnvR X.K H m n env' σ' → But S0 σ σ' → Q σ' H) :=
  fun s H C cl fp => (h s H C cl fp).pg
theorem lc_data {E : Prop} {Q : VK} {σ : L2.St} {S0 : List Nat} {tgt : TG} (hS : ∀ i ∈ S0, i ∈ vs)
    (htg : ∀ v σ H Q, (∃ m n env w env', RWe E X.K H m n v w ∧ EnvR X.K H m n env σ ∧ g w env = some env' ∧ ∀ σ', EnvR X.K H m n env' σ' → But S0 σ σ' → Q σ' H) → tgt v σ H Q) (h : tE X W (eLc ci g t c vs) σ H Q) : tLc (tI E X W ci) tgt (tT X Wno t) (tE X Wno c) vs σ H Q := by
  obtain ⟨m, env, st, S, R, hp⟩ := h
  unfold eLc at hp
  rw [Rs.post_bind] at hp
  refine lc_tLc hS htg S R (Rs.post_mono hp (fun ys st1 q D H1 m1 xs hD f1 S1 F1 hx r1 => ?_) fun _ _ q => q)
  have kp : Kp X.K H1 (Off m1 st1.length) H1 (Off (m1.done D) st1.length) := ⟨fun _ _ h => h, fun _ _ _ h => h, fun a o _ h z => ⟨h, off_done a z⟩⟩
  exact q _ H1 (m1.done D) f1 (S1.sub rfl fun a z => z.1) (.lst (.inl ⟨hx, fun i hi e => S1.fi i hi (by rw [show m1.ix i = D from e]; exact F1), fun z => z.2 rfl⟩) (r1.mv kp))
theorem de_lc {E : Prop} (cx : Cxt M X B k) (h : LcOk E X elt tg iter ifs scope own ci g t c) : DE X (.ListComp elt [⟨tg, iter, ifs, 0⟩] scope pos) (eLc ci g t c (own.map (·.2))) := by
  obtain ⟨S0, hS, hg⟩ := h.S0
  exact ⟨fun W tk => PE.imp (pe_lc (wi := tI E X W ci) (tt := tT X Wno t) (te := tE X Wno c) cx.calm (by rw [cx.hN]; exact cx.nd) (h.hi.pi W tk) h.ok (lcOk_tg hg) (fun s H C cl fp => (h.ht s H C cl fp).pts Wno takes_no) (fun s H C cl fp => (h.he s H C cl fp).pe Wno takes_no) h.hs) fun σ H Q q => lc_data hS (fun _ _ _ _ z => z) q⟩
/-- name = [..] on one line -/
theorem ds_setlc {E : Prop} (cx : Cxt M X B k) (i : Nat) {y : Str} {py spos : Pos} (hi : B.N[i]? = some y) (hl : i ∈ B.ps) (hf : B.fn = true) (h : LcOk E X elt tg iter ifs scope own ci g t c) (hln : (py.line == pos.line) = true)
    (hany : (scope.names.any fun (n, k) => n == y && (k == .local || k == .cell)) = false) : DS X (.Assign [.Name y py] (.ListComp elt [⟨tg, iter, ifs, 0⟩] scope pos) spos) (sSet i (eLc ci g t c (own.map (·.2)))) := by
  obtain ⟨S0, hS, hg⟩ := h.S0
  have hyl := cx.pl i hl y hi
  refine ⟨fun W tk => PS.imp (ps_setLc (wi := tI E X W ci) (tt := tT X Wno t) (te := tE X Wno c) cx.calm (by rw [cx.hN]; exact cx.nd) (by rw [cx.hN]; exact hi) hyl (sw_true (cx.kind hf) hyl hln hany) (h.hi.pi W tk) h.ok (lcOk_tg hg) (fun s H C cl fp => (h.ht s H C cl fp).pts Wno takes_no) (fun s H C cl fp => (h.he s H C cl fp).pe Wno takes_no) h.hs) fun D σ H ⟨m, env, st, S, R, hp⟩ => ?_⟩
  refine lc_data hS (fun _ _ _ _ z => z) ?_
  exact te_sb (f := fun env w st1 => .nx (env.set i (some w)) st1) S R hp fun w st1 v H1 m1 f1 S1 R1 r1 q => q _ H1 m1 f1 S1 (R1.set i r1)
end
end
end
section
variable [Wtp] [Tbl]
/-! ## a def and its calls -/
/-- what goes out of a def, the store's newer part being dropped -/
def frzW (n : Nat) (st : Sto) (w : Wv) : Option PyData := match w with
  | .d x => some x
  | .r i => if n ≤ i then match st[i]? with
    | some (.lst xs) => some (.list xs)
    | some (.dct es) => some (.dict es)
    | some (.dtt es) => some (.dict es)
    | some (.lkd es) => some (.dict es)
    | some (.lkl xs) => some (.list xs)
    | some (.ins _ _) => none
    | none => none
    else none
  | .x _ _ _ => none
def frzA (n : Nat) (st : Sto) : List Wv → Option (List PyData)
  | [] => some []
  | w :: r => match frzW n st w, frzA n st r with
    | some x, some xs => some (x :: xs)
    | _, _ => none
def endR (n : Nat) (st : Sto) : Rt → Rs Wv
  | .w (.d x) => .ok (.d x) (st.take n)
  | .w (.x _ _ _) => .no
  | .w (.r i) => if i < n then .ok (.r i) (st.take n) else match st[i]? with
    | some o => .ok (.r n) (st.take n ++ [o])
    | none => .no
  | .f w => match frzW n st w with
    | some x => .ok (.d x) (st.take n)
    | none => .no
  | .ft ws => match frzA n st ws with
    | some xs => .ok (.d (.tuple xs)) (st.take n)
    | none => .no
def endS (n : Nat) : SR → Rs Wv
  | .nx _ st => .ok (.d .none) (st.take n)
  | .rt p st => endR n st p
  | .ex e st => .ex e (st.take n)
  | .no => .no
/-- a def of np parameters and N names, by its body -/
def mkF (np N : Nat) (body : En → Sto → SR) : List Wv → Sto → Rs Wv := fun ws st => if ws.length = np then endS st.length (body (ws.map some ++ List.replicate (N - ws.length) none) st) else .no
structure Fnk (M : Md) (g : Bool) (k : Nat) (f : Addr) (fd : FuncData) (ps : List Str) (mf : List Wv → Sto → Rs Wv) : Prop where
  len : ∀ ws st Q E, (mf ws st).post Q E → ws.length = ps.length
  run : ∀ (A : Around) (outer : List Env) (s : Shared) (H : Hp) (args : Args) (us : List Value) (vs : List V) (ws : List Wv) (m : Mp) (st : Sto) (Q : VK) (E : XK), Room k A → (g = true → A.guards = some []) → Env0 M.P M.w M.K M.mg M.base A outer s H → BindsTo s fd args (ps.zip us) → Vals vs us →
    Sim M.K H m st → RWs M.K H m st.length vs ws →
    (mf ws st).post (fun w st' => ∀ v H' m', Fol m st.length H m' st'.length H' → Sim M.K H' m' st' → RW M.K H' m' st'.length v w → Q v H') (fun e st' => ∀ c d H' m', Fol m st.length H m' st'.length H' → Sim M.K H' m' st' → ExR M.K M.mg H' m' st'.length e c d → E c d H') →
    codeAny (model M.P M.w) A (.call (.ref f) args) (CR (L2.CX M.P M.w) outer M.P M.w H s Q E) s
theorem Fnk.mono {M : Md} {g : Bool} {j k : Nat} {f : Addr} {fd : FuncData} {ps : List Str} {mf : List Wv → Sto → Rs Wv} (F : Fnk M g j f fd ps mf) (h : j ≤ k) : Fnk M g k f fd ps mf :=
  ⟨F.len, fun A outer s H args us vs ws m st Q E hr => F.run A outer s H args us vs ws m st Q E (hr.mono h)⟩
section
variable {K : Frg} {H H' : Hp} {m m' : Mp} {st : Sto} {n n' : Nat}
theorem off_le {a : Addr} (h : n ≤ n') (z : Off m n' a) : Off m n a := ⟨fun i hi => z.1 i (Nat.lt_of_lt_of_le hi h), z.2⟩
theorem Kp.le (h : n ≤ n') : Kp K H (Off m n') H (Off m n) := ⟨fun _ _ q => q, fun _ _ _ q => q, fun a o _ q z => ⟨q, off_le h z⟩⟩
theorem Sim.take (S : Sim K H m st) (h : n ≤ st.length) : Sim K H m (st.take n) := by
  have hl : (st.take n).length = n := by rw [List.length_take]; omega
  refine ⟨fun i o e => ?_, fun i j hi hj => S.inj i j (by omega) (by omega), S.ff, fun i hi => S.fi i (by omega), S.tb⟩
  have hi : i < n := by have := (List.getElem?_eq_some_iff.mp e).1; omega
  rw [List.getElem?_take_of_lt hi] at e
  have q := S.ob i o e
  rw [hl]
  cases o with
  | lst xs => obtain ⟨vs, h1, h2⟩ := q; exact ⟨vs, h1, h2.mv (.le h)⟩
  | dct kvs => obtain ⟨vs, h1, h2⟩ := q; exact ⟨vs, h1, RpK.kp (.le h) _ _ h2⟩
  | dtt kvs => obtain ⟨vs, h1, h2⟩ := q; exact ⟨vs, h1, RpT.kp (.le h) _ _ h2⟩
  | lkd es => exact Rp.mv q (.le h)
  | lkl xs => exact FzL.mv q (.le h)
  | ins C es => exact InAt.mv q (.le h) fun _ _ e => e
theorem Fol.back (f : Fol m n H m' n' H') : Fol m n H m' n H' := ⟨f.tup, f.frz, f.rest, f.old, fun i a b => absurd b (by omega), Nat.le_refl _, f.dom, f.eF⟩
/-- dicts at these places are pinned -/
def fzH (H : Hp) (as : List Addr) (os : Addr → Obj) : Hp := fun b => if b ∈ as then (match H b with
  | some (.dK ks) => some (.frz (os b) (.dK ks))
  | some (.dT ks) => some (.frz (os b) (.dT ks))
  | u => u) else H b
theorem fz_nil (H : Hp) (os : Addr → Obj) : fzH H [] os = H := by funext b; unfold fzH; simp
theorem fz_out {H : Hp} {as : List Addr} {os : Addr → Obj} {b : Addr} (h : b ∉ as) : fzH H as os b = H b := if_neg h
theorem fz_dK {H : Hp} {as : List Addr} {os : Addr → Obj} {b : Addr} {ks : List (Key × V)} (hb : b ∈ as) (h : H b = some (.dK ks)) : fzH H as os b = some (.frz (os b) (.dK ks)) := by unfold fzH; rw [if_pos hb, h]
theorem fz_dT {H : Hp} {as : List Addr} {os : Addr → Obj} {b : Addr} {ks : List (List Key × V)} (hb : b ∈ as) (h : H b = some (.dT ks)) : fzH H as os b = some (.frz (os b) (.dT ks)) := by unfold fzH; rw [if_pos hb, h]
theorem fz_same {H : Hp} {as : List Addr} {os : Addr → Obj} {b : Addr} {u : HO} (h : H b = some u) (h1 : ∀ ks, u ≠ .dK ks) (h2 : ∀ ks, u ≠ .dT ks) : fzH H as os b = some u := by
  unfold fzH
  split
  · rw [h]
    split
    · rename_i ks e; exact absurd (Option.some.inj e) (h1 ks)
    · rename_i ks e; exact absurd (Option.some.inj e) (h2 ks)
    · rfl
  · exact h
theorem fz_nn {H : Hp} {as : List Addr} {os : Addr → Obj} {b : Addr} (h : Nn H b) : Nn (fzH H as os) b := by
  obtain ⟨u, e, nt⟩ := h
  by_cases hk : (∃ ks, u = .dK ks) ∨ ∃ ks, u = .dT ks
  · by_cases hb : b ∈ as
    · rcases hk with ⟨ks, rfl⟩ | ⟨ks, rfl⟩
      · exact ⟨_, fz_dK hb e, fun _ z => nomatch z⟩
      · exact ⟨_, fz_dT hb e, fun _ z => nomatch z⟩
    · exact ⟨u, (fz_out hb).trans e, nt⟩
  · exact ⟨u, fz_same e (fun ks z => hk (.inl ⟨ks, z⟩)) (fun ks z => hk (.inr ⟨ks, z⟩)), nt⟩
theorem fz_tabs {T : List (Addr × Str)} {H : Hp} {as : List Addr} {os : Addr → Obj} (t : LamX.Tabs T H) : LamX.Tabs T (fzH H as os) := fun p hp => by
  obtain ⟨ps, h1, h2, h3⟩ := t p hp
  refine ⟨ps, fz_same h1 (fun _ z => nomatch z) (fun _ z => nomatch z), h2, fun pos cv hc => ?_⟩
  obtain ⟨c, e, hq⟩ := h3 pos cv hc
  exact ⟨c, e, fz_same hq (fun _ z => nomatch z) (fun _ z => nomatch z)⟩
theorem fz_kp {H : Hp} {as : List Addr} {os : Addr → Obj} {Z Z' : Addr → Prop} (h : ∀ a, Z a → Z' a) : Kp K H Z (fzH H as os) Z' :=
  ⟨fun a xs e => fz_same e (fun _ z => nomatch z) (fun _ z => nomatch z), fun a o u e => fz_same e (fun _ z => nomatch z) (fun _ z => nomatch z), fun a o ⟨xs, ho⟩ e z => ⟨by subst ho; exact fz_same e (fun _ z => nomatch z) (fun _ z => nomatch z), h a z⟩⟩
theorem freezeAll {X : Cx} {pins : List (Addr × Obj)} {σ : L2.St} {s : Shared} (I : Inv X pins σ H s) : ∀ as : List Addr, ∃ os, Inv X pins σ (fzH H as os) s
  | [] => ⟨fun _ => { cls := .none, data := .plain }, by rw [fz_nil]; exact I⟩
  | a :: as => by
    obtain ⟨os, J⟩ := freezeAll I as
    by_cases ha : a ∈ as
    · refine ⟨os, ?_⟩
      rw [show fzH H (a :: as) os = fzH H as os from by
        funext b
        unfold fzH
        by_cases hb : b ∈ as
        · rw [if_pos (List.mem_cons_of_mem _ hb), if_pos hb]
        · rw [if_neg hb, if_neg (fun z => by rcases List.mem_cons.mp z with rfl | z <;> contradiction)]]
      exact J
    · have go : ∀ u, H a = some u → ((∃ ks, u = .dK ks) ∨ ∃ ks, u = .dT ks) → ∃ os, Inv X pins σ (fzH H (a :: as) os) s := fun u e hu => by
        obtain ⟨o, J2⟩ := Inv.freeze J (a := a) (u := u) (by rw [fz_out ha]; exact e) hu
        refine ⟨fun b => if b = a then o else os b, ?_⟩
        rw [show fzH H (a :: as) (fun b => if b = a then o else os b) = upd (fzH H as os) a (.frz o u) from by
          funext b
          by_cases hb : b = a
          · subst hb
            rw [upd_same]
            rcases hu with ⟨ks, rfl⟩ | ⟨ks, rfl⟩
            · rw [fz_dK (List.mem_cons_self ..) e, if_pos rfl]
            · rw [fz_dT (List.mem_cons_self ..) e, if_pos rfl]
          · rw [upd_ne hb]
            unfold fzH
            by_cases hb2 : b ∈ as
            · rw [if_pos (List.mem_cons_of_mem _ hb2), if_pos hb2]
              split <;> simp_all
            · rw [if_neg hb2, if_neg (fun z => by rcases List.mem_cons.mp z with rfl | z <;> contradiction)]]
        exact J2
      by_cases hk : ∃ u, H a = some u ∧ ((∃ ks, u = .dK ks) ∨ ∃ ks, u = .dT ks)
      · obtain ⟨u, e, hu⟩ := hk
        exact go u e hu
      · refine ⟨os, ?_⟩
        rw [show fzH H (a :: as) os = fzH H as os from by
          funext b
          by_cases hb : b = a
          · subst hb
            rw [fz_out ha]
            cases e : H b with
            | none => unfold fzH; rw [if_pos (List.mem_cons_self ..), e]
            | some u => exact fz_same e (fun ks z => hk ⟨u, e, .inl ⟨ks, z⟩⟩) (fun ks z => hk ⟨u, e, .inr ⟨ks, z⟩⟩)
          · unfold fzH
            by_cases hb2 : b ∈ as
            · rw [if_pos (List.mem_cons_of_mem _ hb2), if_pos hb2]
            · rw [if_neg hb2, if_neg (fun z => by rcases List.mem_cons.mp z with rfl | z <;> contradiction)]]
        exact J
def asOf (m : Mp) : Wv → List Addr
  | .r i => [m.ix i]
  | _ => []
/-- only what is newer than n is pinned -/
def AsNew (m : Mp) (n n' : Nat) (as : List Addr) : Prop := ∀ a ∈ as, ∃ i, n ≤ i ∧ i < n' ∧ m.ix i = a
theorem rw_frz {v : V} {w : Wv} {x : PyData} {as : List Addr} {os : Addr → Obj} (S : Sim K H m st) (hn : n ≤ st.length) (r : RW K H m st.length v w) (e : frzW n st w = some x) (ha : ∀ a ∈ asOf m w, a ∈ as) : Rp K (fzH H as os) (Off m n) v x := by
  have kp : Kp K H (Off m st.length) (fzH H as os) (Off m n) := fz_kp fun a z => off_le hn z
  unfold frzW at e
  split at e
  · cases e; exact Rp.mv r kp
  · rename_i i
    split at e
    · rename_i hi
      have hz : Off m n (m.ix i) := ⟨fun j hj q => by have := S.inj j i (by omega) r.1 q; omega, S.fi i r.1⟩
      rw [r.2]
      split at e
      · rename_i xs e1
        cases e
        obtain ⟨vs, h1, h2⟩ := S.ob i _ e1
        exact .lst (.inl ⟨fz_same h1 (fun _ z => nomatch z) (fun _ z => nomatch z), hz⟩) (h2.mv kp)
      · rename_i es e1
        cases e
        obtain ⟨vs, h1, h2⟩ := S.ob i _ e1
        exact .dic (fz_dK (ha _ (by simp [asOf])) h1) (RpK.kp kp _ _ h2)
      · rename_i es e1
        cases e
        obtain ⟨vs, h1, h2⟩ := S.ob i _ e1
        exact .dit (fz_dT (ha _ (by simp [asOf])) h1) (RpT.kp kp _ _ h2)
      · rename_i es e1
        cases e
        exact Rp.mv (show Rp K H (Off m st.length) (.ref (m.ix i)) (.dict es) from S.ob i _ e1) kp
      · rename_i xs e1
        cases e
        exact (FzL.mv (show FzL K H (Off m st.length) (m.ix i) xs from S.ob i _ e1) kp).rp
      · cases e
      · cases e
    · cases e
  · cases e
theorem rws_frz {as : List Addr} {os : Addr → Obj} : ∀ {vs : List V} {ws : List Wv} {xs : List PyData} (S : Sim K H m st) (hn : n ≤ st.length) (r : RWs K H m st.length vs ws) (e : frzA n st ws = some xs) (ha : ∀ a ∈ ws.flatMap (asOf m), a ∈ as), RpA K (fzH H as os) (Off m n) vs xs
  | _, _, _, S, hn, .nil, e, _ => by cases e; exact .nil
  | _, _, _, S, hn, .cons r1 r2, e, ha => by
    unfold frzA at e
    split at e
    · rename_i x xs e1 e2
      cases e
      exact .cons (rw_frz S hn r1 e1 fun a h => ha a (by simp [h])) (rws_frz S hn r2 e2 fun a h => ha a (by simp only [List.flatMap_cons, List.mem_append]; exact .inr h))
    · cases e
/-- the same without dicts of the store -/
def frzL (n : Nat) (st : Sto) (w : Wv) : Option PyData := match w with
  | .d x => some x
  | .r i => if n ≤ i then match st[i]? with
    | some (.lst xs) => some (.list xs)
    | _ => none
    else none
  | .x _ _ _ => none
def newA (n : Nat) (m : Mp) : Wv → List Addr
  | .r i => if n ≤ i then [m.ix i] else []
  | _ => []
theorem newA_new {n n' : Nat} {w : Wv} (h : ∀ i, w = .r i → i < n') : AsNew m n n' (newA n m w) := fun a ha => by
  cases w with
  | d x => cases ha
  | x a c d => cases ha
  | r i =>
    by_cases hi : n ≤ i
    · simp only [newA, if_pos hi, List.mem_singleton] at ha
      exact ⟨i, hi, h i rfl, ha.symm⟩
    · simp only [newA, if_neg hi] at ha
      cases ha
theorem newA_all {w : Wv} {x : PyData} (e : frzW n st w = some x) : ∀ a ∈ asOf m w, a ∈ newA n m w := fun a ha => by
  cases w with
  | d x => cases ha
  | x a c d => cases ha
  | r i =>
    by_cases hi : n ≤ i
    · simp only [newA, if_pos hi]; exact ha
    · simp only [frzW, if_neg hi] at e
      cases e
theorem newAs_new {n n' : Nat} : ∀ {vs : List V} {ws : List Wv}, RWs K H m n' vs ws → AsNew m n n' (ws.flatMap (newA n m))
  | _, _, .nil => fun a ha => by cases ha
  | _, _, .cons r1 r2 => fun a ha => by
    rw [List.flatMap_cons, List.mem_append] at ha
    rcases ha with ha | ha
    · exact newA_new (fun i e => by subst e; exact r1.1) a ha
    · exact newAs_new r2 a ha
theorem frzA_mem : ∀ {ws : List Wv} {xs : List PyData}, frzA n st ws = some xs → ∀ w ∈ ws, ∃ x, frzW n st w = some x
  | [], _, _, w, hw => by cases hw
  | u :: r, xs, e, w, hw => by
    unfold frzA at e
    split at e
    · rename_i x ys e1 e2
      rcases List.mem_cons.mp hw with rfl | hw
      · exact ⟨x, e1⟩
      · exact frzA_mem e2 w hw
    · cases e
theorem Sim.fz' {as : List Addr} {os : Addr → Obj} (S : Sim K H m st) (h : n ≤ st.length) (hA : ∀ i, i < n → m.ix i ∉ as) : Sim K (fzH H as os) m (st.take n) := by
  have T := S.take h
  have hl : (st.take n).length = n := by rw [List.length_take]; omega
  have kp : Kp K H (Off m (st.take n).length) (fzH H as os) (Off m (st.take n).length) := fz_kp fun a z => z
  refine ⟨fun i o e => ?_, T.inj, fun a z => fz_nn (T.ff a z), T.fi, ?_⟩
  · have hi : i < n := by have := (List.getElem?_eq_some_iff.mp e).1; omega
    have no : m.ix i ∉ as := hA i hi
    have q := T.ob i o e
    cases o with
    | lst xs => obtain ⟨vs, h1, h2⟩ := q; exact ⟨vs, by rw [fz_out no]; exact h1, h2.mv kp⟩
    | dct kvs => obtain ⟨vs, h1, h2⟩ := q; exact ⟨vs, by rw [fz_out no]; exact h1, RpK.kp kp _ _ h2⟩
    | dtt kvs => obtain ⟨vs, h1, h2⟩ := q; exact ⟨vs, by rw [fz_out no]; exact h1, RpT.kp kp _ _ h2⟩
    | lkd es => exact Rp.mv q kp
    | lkl xs => exact FzL.mv q kp
    | ins C es => exact InAt.mv q kp fun _ _ e => by rw [fz_out no]; exact e
  · exact fz_tabs T.tb
theorem Sim.fz {as : List Addr} {os : Addr → Obj} (S : Sim K H m st) (h : n ≤ st.length) (hA : AsNew m n st.length as) : Sim K (fzH H as os) m (st.take n) := S.fz' h fun i hi z => by
  obtain ⟨j, h1, h2, h3⟩ := hA _ z
  have := S.inj j i h2 (by omega) h3
  omega
theorem Fol.fz {as : List Addr} {os : Addr → Obj} (f : Fol m n H m' n' H') (hA : AsNew m' n n' as) : Fol m n H m' n' (fzH H' as os) := by
  have no : ∀ {a}, Nn H a → a ∉ as := fun {a} h z => by
    obtain ⟨i, h1, h2, h3⟩ := hA _ z
    exact f.new i h1 h2 (h3 ▸ h)
  exact ⟨fun a xs e => fz_same (f.tup a xs e) (fun _ z => nomatch z) (fun _ z => nomatch z), fun a o u e => fz_same (f.frz a o u e) (fun _ z => nomatch z) (fun _ z => nomatch z), fun a o nt e z => by rw [fz_out (no ⟨o, e, nt⟩)]; exact f.rest a o nt e z, f.old, f.new, f.le, fun a h => fz_nn (f.dom a h), f.eF⟩
/-- a newer object becomes the next one -/
theorem Sim.keep1 {i : Nat} {o : Ob} (S : Sim K H m st) (hn : n ≤ i) (e : st[i]? = some o) : Sim K H (mup m n (m.ix i)) (st.take n ++ [o]) := by
  have hi : i < st.length := (List.getElem?_eq_some_iff.mp e).1
  have hl : (st.take n).length = n := by rw [List.length_take]; omega
  have hl2 : (st.take n ++ [o]).length = n + 1 := by simp [hl]
  have hx : ∀ j, j < n → m.ix j ≠ m.ix i := fun j hj q => by have := S.inj j i (by omega) hi q; omega
  have kp : Kp K H (Off m st.length) H (Off (mup m n (m.ix i)) (n + 1)) := ⟨fun _ _ q => q, fun _ _ _ q => q, fun a o _ q z => ⟨q, fun j hj e2 => by
    by_cases q : j < n
    · rw [mup_old q] at e2; exact z.1 j (by omega) e2
    · rw [show j = n by omega, mup_new] at e2; exact z.1 i hi e2
  , z.2⟩⟩
  refine ⟨fun j u e2 => ?_, fun j l hj hk e2 => ?_, S.ff, fun j hj => ?_, S.tb⟩
  · rw [hl2]
    by_cases q : j < n
    · rw [List.getElem?_append_left (by omega), List.getElem?_take_of_lt q] at e2
      have h := S.ob j u e2
      rw [mup_old q]
      cases u with
      | lst xs => obtain ⟨vs, h1, h2⟩ := h; exact ⟨vs, h1, h2.mv kp⟩
      | dct kvs => obtain ⟨vs, h1, h2⟩ := h; exact ⟨vs, h1, RpK.kp kp _ _ h2⟩
      | dtt kvs => obtain ⟨vs, h1, h2⟩ := h; exact ⟨vs, h1, RpT.kp kp _ _ h2⟩
      | lkd es => exact Rp.mv h kp
      | lkl xs => exact FzL.mv h kp
      | ins C es => exact InAt.mv h kp fun _ _ e => e
    · have ej : j = n := by have := (List.getElem?_eq_some_iff.mp e2).1; omega
      subst ej
      rw [List.getElem?_append_right (by omega), hl] at e2
      simp at e2
      subst e2
      rw [mup_new]
      have h := S.ob i o e
      cases o with
      | lst xs => obtain ⟨vs, h1, h2⟩ := h; exact ⟨vs, h1, h2.mv kp⟩
      | dct kvs => obtain ⟨vs, h1, h2⟩ := h; exact ⟨vs, h1, RpK.kp kp _ _ h2⟩
      | dtt kvs => obtain ⟨vs, h1, h2⟩ := h; exact ⟨vs, h1, RpT.kp kp _ _ h2⟩
      | lkd es => exact Rp.mv h kp
      | lkl xs => exact FzL.mv h kp
      | ins C es => exact InAt.mv h kp fun _ _ e => e
  · rw [hl2] at hj hk
    by_cases q : j < n
    · by_cases q2 : l < n
      · rw [mup_old q, mup_old q2] at e2; exact S.inj j l (by omega) (by omega) e2
      · rw [mup_old q, show l = n by omega, mup_new] at e2; exact absurd e2 (hx j q)
    · by_cases q2 : l < n
      · rw [show j = n by omega, mup_new, mup_old q2] at e2; exact absurd e2.symm (hx l q2)
      · omega
  · rw [hl2] at hj
    by_cases q : j < n
    · rw [mup_old q]; exact S.fi j (by omega)
    · rw [show j = n by omega, mup_new]; exact S.fi i hi
theorem Fol.keep1 {i : Nat} (f : Fol m n H m' n' H') (hi : n ≤ i) (hi2 : i < n') : Fol m n H (mup m' n (m'.ix i)) (n + 1) H' where
  tup := f.tup
  frz := f.frz
  rest := f.rest
  old j hj := by rw [mup_old hj]; exact f.old j hj
  new j h1 h2 := by rw [show j = n by omega, mup_new]; exact f.new i hi hi2
  le := Nat.le_succ n
  dom := f.dom
  eF := f.eF
end
/-- what a scope must tell -/
def fnT (B : Tb) (sc : Scope) : Bool :=
  (B.us.all fun i => match B.N[i]? with | some x => kdV (sc.names.lookup x) | none => true) &&
  ((B.ls.all fun i => match B.N[i]? with | some x => kdL (sc.names.lookup x) | none => true) &&
  ((B.ps.all fun i => match B.N[i]? with | some x => decide (sc.names.lookup x = some .local) | none => true) &&
  ((B.gs.all fun x => kdG (sc.names.lookup x)) && ((B.cs.all fun x => kdC (sc.names.lookup x)) && B.fn))))
theorem kdV_vis {sc : Scope} {x : Str} (h : kdV (sc.names.lookup x) = true) : Vis sc x := by
  unfold kdV at h
  split at h
  · exact .inl (by assumption)
  · exact .inr (.inl (by assumption))
  · exact .inr (.inr (by assumption))
  · cases h
theorem kdL_loc {sc : Scope} {x : Str} (h : kdL (sc.names.lookup x) = true) : Loc sc x := by
  unfold kdL at h
  split at h
  · exact .inl (by assumption)
  · exact .inr (by assumption)
  · cases h
theorem kdC_cap {sc : Scope} {x : Str} (h : kdC (sc.names.lookup x) = true) : sc.names.lookup x = some .cell ∨ sc.names.lookup x = some .free := by
  unfold kdC at h
  split at h
  · exact .inl (by assumption)
  · exact .inr (by assumption)
  · cases h
theorem kdG_gl {sc : Scope} {x : Str} (h : kdG (sc.names.lookup x) = true) : sc.names.lookup x = some .globalImplicit := by
  unfold kdG at h
  split at h
  · assumption
  · cases h
theorem SR.post_end {x : SR} {n : Nat} {Q : Wv → Sto → Prop} {E : Xc → Sto → Prop} (h : (endS n x).post Q E) : x.post (fun _ st => Q (.d .none) (st.take n)) (fun p st => (endR n st p).post Q E) (fun e st => E e (st.take n)) := by
  cases x with
  | nx env st => exact h
  | rt p st => exact h
  | ex e st => exact h
  | no => exact h
/-- a def, by its body -/
theorem fnk_of {M : Md} {B : Tb} {k : Nat} {f : Addr} {name qual : Str} {params : Arguments} {body : List Stmt} {scope : Scope} {dV kV doc pm cdv ct oc : Value} {an od : Option Addr} {osl : Array (Option Value)} {ps : List Str} {cb : En → Sto → SR} {np nN : Nat}
    (hf : M.K.lookup f = some ⟨oc, od, .func (PySem.W.fnOf name qual params body scope dV kV doc pm an cdv ct), osl⟩) (hcode : PySem.W.codeIn M.K cdv qual = true) (SC : FnScope B.N ps scope) (hT : fnT B scope = true) (hnp : ps.length = np) (hnN : B.N.length = nN)
    (hb : ∀ X : Cx, Cxt M X B k → DB X body cb) (hlam : ∀ q, B.lq = some q → (qual ++ ".<locals>.") ++ "<lambda>" = q ∧ LamC M.mg M.base q cdv := by intro _ h; exact nomatch (show (none : Option Str) = some _ from h)) : Fnk M B.gd (k + 1) f (PySem.W.fnOf name qual params body scope dV kV doc pm an cdv ct) ps (mkF np nN cb) := by
  have arity : ∀ ws st Q E, (mkF np nN cb ws st).post Q E → ws.length = ps.length := fun ws st Q E h => by
    unfold mkF at h
    split at h
    · rw [hnp]; assumption
    · exact h.elim
  refine ⟨arity, fun A outer s H args us vs ws m st Q E room guard e0 bound rv S rw0 hp => ?_⟩
  have hwl := arity _ _ _ _ hp
  have hvl : vs.length = ps.length := rw0.len.trans hwl
  have inK : M.K.In s.heap := e0.mod.kin.keeps fun b o e => (e0.bs b o e).1
  have noLim : s.heap.NoLimit := e0.mod.nolimit.keeps fun b o e => (e0.bs b o e).1
  have kinds : ∀ y ∈ ps.zip us, scope.names.lookup y.1 = some .local ∨ (scope.names.lookup y.1 = some .cell ∧ ((cellsFrom (s.heap.objs.size + 1) scope.names []).lookup y.1).isSome = true) := by
    rintro ⟨y, v⟩ hy
    have hy' := SC.par y (List.of_mem_zip hy).1
    exact hy'.imp id fun q => ⟨q, PySem.W.cellsFrom_some _ _ _ (.inl q)⟩
  refine codeAny_call_function room.depth (inK _ _ hf) rfl SC.co SC.gen rfl (PySem.W.codeRec_of inK hcode) (bound _ _ _ _ (wpAny_newFunctionEnv_cells SC.kind kinds fun env henv s1 x => ?_))
  subst henv
  refine ⟨noLim.keeps x.toInCall.keep, codeAny_func ?_⟩
  generalize hX : cxOf (L2.CX M.P M.w) M.P M.w M.K M.mg M.base B.N qual scope f cdv A outer s H E = X
  have hI : Inv X [] (start B.N vs) H s1 := by rw [← hX]; exact inv_start SC room.hd e0 hvl rv x
  unfold fnT at hT
  simp only [Bool.and_eq_true, List.all_eq_true, decide_eq_true_eq] at hT
  obtain ⟨t1, t2, t3, t4, t5, t6⟩ := hT
  have hC : Cxt M X B k := by
    subst hX
    refine ⟨rfl, rfl, rfl, rfl, rfl, rfl, SC.nd, rfl, fun _ => SC.kind, room.deeper _, guard, fun i hi x hx => ?_, fun i hi x hx => ?_, fun i hi x hx => ?_, fun j x hx => kdG_gl (t4 x (List.mem_of_getElem? hx)), fun x hx => kdC_cap (t5 x hx), fun _ => passes_of rfl, hlam, fun _ => ⟨rfl, rfl⟩⟩
    · have q := t1 i hi
      rw [hx] at q
      exact kdV_vis q
    · have q := t2 i hi
      rw [hx] at q
      exact ⟨kdL_loc q, .inl rfl⟩
    · have q := t3 i hi
      rw [hx] at q
      exact of_decide_eq_true q
  have tk : Takes X (fun c d _ H' => E c d H') := by subst hX; exact takes_of rfl rfl rfl rfl
  have hR : EnvR X.K H m st.length (ws.map some ++ List.replicate (nN - ws.length) none) (start B.N vs) := by
    refine ⟨?_, fun i w hw => ?_⟩
    · unfold L2.start; simp [rw0.len, hnN]
    · have hi : i < ws.length := by
        rcases Nat.lt_or_ge i ws.length with z | z
        · exact z
        · rw [List.getElem?_append_right (by simpa using z)] at hw
          have := List.mem_of_getElem? hw
          simp at this
      rw [List.getElem?_append_left (by simpa using hi)] at hw
      have get : ∀ {vs : List V} {ws : List Wv} {i : Nat} {w : Wv}, RWs M.K H m st.length vs ws → ws[i]? = some w → ∃ v, vs[i]? = some v ∧ RW M.K H m st.length v w := by
        intro vs ws i w r
        induction r generalizing i with
        | nil => intro e; simp at e
        | cons r1 _ ih =>
          intro e
          cases i with
          | zero => simp at e; subst e; exact ⟨_, rfl, r1⟩
          | succ i => simpa using ih (by simpa using e)
      obtain ⟨v, hv, r⟩ := get rw0 (i := i) (w := w) (by simpa [hi] using hw)
      refine ⟨v, ?_, by subst hX; exact r⟩
      unfold L2.start
      rw [List.getElem?_append_left (by have := (List.getElem?_eq_some_iff.mp hv).1; simpa using this)]
      simp [hv]
  have hK : X.K = M.K := hC.hK
  have hmg : X.mg = M.mg := hC.mg
  have run := ((hb X hC).pss _ tk).run [] s1 (start B.N vs) H { nx := fun _ H' => Q .non H', rt := fun v H' => ∃ as, ∀ os, Q v (fzH H' as os) } hI
  unfold mkF at hp
  rw [if_pos (hwl.trans hnp)] at hp
  have hp2 := SR.post_end hp
  have fin : ∀ {σ' : L2.St} {H' : Hp} {v : V} {u : Value} {s' : Shared}, Inv X [] σ' H' s' → RelV v u → Q v H' → CE outer M.P M.w H s Q u s' := fun {σ' H' v u s'} J rv q => by
    subst hX
    exact ⟨v, H', J.os, J.bare, J.base, J.hok, rv, q⟩
  have hA : X.A = A.deeper (envOfC qual scope s.heap.objs.size f cdv) := by rw [← hX]; rfl
  have hxe : ∀ e s', X.xe e s' = wpAny (model M.P M.w) (A.deeper (envOfC qual scope s.heap.objs.size f cdv)) (leaving (envOfC qual scope s.heap.objs.size f cdv) e) (fun _ s'' => L2.CX M.P M.w outer H s E e s'') (fun e' s'' => L2.CX M.P M.w outer H s E e' s'') s' := fun e s' => by rw [← hX]; rfl
  have run2 := run ⟨m, _, st, by rw [hK]; exact S, hR, SR.post_mono hp2 (fun env st' q σ' H' m' f S' _ => ?_) (fun p st' q v H' m' f S' r => ?_) fun e st' q c d σ' H' m' f S' r => ?_⟩
  · subst hX
    refine wpAny_mono run2 (fun fl s' hs => ?_) fun e s' hs => hs
    cases fl with
    | ret u => obtain ⟨v, σ', H', J, rv, as, q⟩ := hs; obtain ⟨os, J2⟩ := freezeAll J as; exact fin J2 rv (q os)
    | next => obtain ⟨σ', H', J, q⟩ := hs; exact fin (v := V.non) (u := Value.none) J rfl q
    | brk => obtain ⟨_, _, _, q⟩ := hs; exact q.elim
    | cont => obtain ⟨_, _, _, q⟩ := hs; exact q.elim
  · have tl : (st'.take st.length).length = st.length := by rw [List.length_take]; have := f.le; omega
    rw [hK] at S'
    exact q .non H' m' (by rw [tl]; exact f.back) (S'.take f.le) .non
  · have tl : (st'.take st.length).length = st.length := by rw [List.length_take]; have := f.le; omega
    rw [hK] at S' r
    have plain : Q v H' → ∃ as, ∀ os, Q v (fzH H' as os) := fun z => ⟨[], fun os => by rw [fz_nil]; exact z⟩
    unfold endR at q
    split at q
    · exact plain (q _ H' m' (by rw [tl]; exact f.back) (S'.take f.le) (by rw [tl]; exact Rp.mv r (.le f.le)))
    · exact q.elim
    · rename_i i
      split at q
      · rename_i hi
        exact plain (q _ H' m' (by rw [tl]; exact f.back) (S'.take f.le) (by rw [tl]; exact ⟨hi, r.2⟩))
      · rename_i hi
        split at q
        · rename_i o eo
          have tl2 : (st'.take st.length ++ [o]).length = st.length + 1 := by simp [tl]
          exact plain (q _ H' (mup m' st.length (m'.ix i)) (by rw [tl2]; exact f.keep1 (by omega) r.1) (S'.keep1 (by omega) eo) (by rw [tl2]; exact ⟨Nat.lt_succ_self _, by rw [mup_new]; exact r.2⟩))
        · exact q.elim
    · rename_i w
      split at q
      · rename_i x ex
        have hA : AsNew m' st.length st'.length (newA st.length m' w) := newA_new (fun i e => by subst e; exact r.1)
        exact ⟨newA st.length m' w, fun os => q _ _ m' (by rw [tl]; exact (f.fz hA).back) (S'.fz f.le hA) (by rw [tl]; exact rw_frz S' f.le r ex (newA_all ex))⟩
      · exact q.elim
    · rename_i ws
      split at q
      · rename_i xs ex
        obtain ⟨a, u, us', rfl, h1, hu, h2⟩ := r
        have hA : AsNew m' st.length st'.length (ws.flatMap (newA st.length m')) := newAs_new h2
        exact ⟨ws.flatMap (newA st.length m'), fun os => q _ _ m' (by rw [tl]; exact (f.fz hA).back) (S'.fz f.le hA) (by rw [tl]; exact .tup (hu.tp (fz_same h1 hu.nK hu.nT)) (rws_frz S' f.le h2 ex fun a ha => by
          obtain ⟨w, hw, hb⟩ := List.mem_flatMap.mp ha
          obtain ⟨x, ex2⟩ := frzA_mem ex w hw
          exact List.mem_flatMap.mpr ⟨w, hw, newA_all ex2 a hb⟩))⟩
      · exact q.elim
  · have tl : (st'.take st.length).length = st.length := by rw [List.length_take]; have := f.le; omega
    rw [hK] at S' r
    rw [hmg] at r
    refine q c d H' m' (by rw [tl]; exact f.back) (S'.take f.le) ⟨r.cls, ?_⟩
    rw [tl]
    rcases r.fld with z | ⟨dd, h1, fs, h2, h3, h4, h5⟩
    · exact .inl z
    · exact .inr ⟨dd, h1, fs, h2, h3, h4.mv (.le f.le), off_le f.le h5⟩
def eCall (mf : List Wv → Sto → Rs Wv) (cs : En → Sto → Rs (List Wv)) : En → Sto → Rs Wv := fun env st => (cs env st).bind mf
section
variable {M : Md} {X : Cx} {B : Tb} {k : Nat} {f : Addr} {fd : FuncData} {ps : List Str} {mf : List Wv → Sto → Rs Wv} {cs : En → Sto → Rs (List Wv)} {x : Str} {p pos : Pos} {e : Expr} {es : List Expr}
theorem de_call {g : Bool} (c : Cxt M X B k) (F : Fnk M g k f fd ps mf) (j : Nat) (hg : B.gs[j]? = some x) (hm : M.mg x = some (.ref f)) (hk : PySem.W.keepIn M.K (.ref f) = true) (hb : Binds M.K fd ps []) (ha : DA X (e :: es) cs) (hgd : g = true → B.gd = true) (hdb : (x == ("__debug__" : Str)) = false := by decide)
    (he : starEach (e :: es) X.env = (false, eval e X.env) :: starEach es X.env := by rfl) (hpl : (backTo pos (starEach es X.env)).any (·.1) = false := by rfl) : DE X (.Call (.Name x p) (e :: es) [] pos) (eCall mf cs) := by
  obtain ⟨P, w, K, mg, base⟩ := M
  obtain ⟨rfl, rfl, rfl, rfl, rfl⟩ : X.prog = P ∧ X.w = w ∧ X.K = K ∧ X.mg = mg ∧ X.base = base := ⟨c.hP, c.hw, c.hK, c.mg, c.hb⟩
  refine .mk' fun W pins σ H s m env st Q tk I S R hp => ?_
  unfold eCall at hp
  rw [Rs.post_bind] at hp
  refine wpAny_Call_Name_kw (ld_glob I (c.gl j x hg) hm ?_ hdb)
  refine PySem.W.callWith_K (h₀ := X.base) I.ok.mod.kin hk (ha.go tk I S R pos (Rs.post_mono hp (fun ws st1 q vs H1 m1 us s1 I1 rv f1 S1 r1 => ⟨I1.kIn, ?_⟩) fun _ _ q => q)) he hpl
  have hl : us.length = ps.length := by rw [← rv.length, r1.len]; exact F.len _ _ _ _ q
  have bd := hb s1 us I1.kIn (by rw [List.append_nil]; exact hl)
  rw [List.append_nil] at bd
  refine wpAny_call (codeAny_mono (F.run X.A X.stack s1 H1 ⟨us, []⟩ us vs ws m1 st1 (fun v H' => ∀ u s', Inv X pins σ H' s' → RelV v u → Q u s') (WE W σ) c.room (fun z => c.gu (hgd z)) I1.env0 bd rv S1 r1 (Rs.post_mono q (fun w st2 q2 v H2 m2 f2 S2 r2 u s2 I2 rv2 => ?_) fun e st2 q2 c d H2 m2 f2 S2 r2 => ?_)) fun r s2 hq => ?_)
  · exact q2 v H2 m2 u s2 I2 rv2 (f1.trans f2) S2 r2
  · exact q2 c d H2 m2 (f1.trans f2) S2 r2
  · cases r with
    | error e => exact passAt tk σ pins H1 s1 e s2 I1 hq
    | ok fl =>
      cases fl with
      | ret u =>
        obtain ⟨v, H2, I2, rv2, q2⟩ := I1.after hq
        exact q2 u s2 I2 rv2
      | next => exact False.elim hq
      | brk => exact False.elim hq
      | cont => exact False.elim hq
end
end
section
variable [Wtp] [Tbl]
/-! ## the store is written -/
section
variable {K : Frg} {H H' : Hp} {m m' : Mp} {st : Sto} {n n' : Nat}
theorem Kp.wr {i : Nat} {o o' : HO} (hi : i < n) (h : H (m.ix i) = some o) (ho : (∃ xs, o = .lst xs) ∨ (∃ kvs, o = .dK kvs) ∨ ∃ kvs, o = .dT kvs) : Kp K H (Off m n) (upd H (m.ix i) o') (Off m n) := by
  refine ⟨fun a xs e => ?_, fun a q u e => ?_, fun a q _ e z => ⟨?_, z⟩⟩
  · rw [upd_ne]; exact e
    intro q; rw [q, h] at e
    rcases ho with ⟨_, rfl⟩ | ⟨_, rfl⟩ | ⟨_, rfl⟩ <;> cases e
  · rw [upd_ne]; exact e
    intro q; rw [q, h] at e
    rcases ho with ⟨_, rfl⟩ | ⟨_, rfl⟩ | ⟨_, rfl⟩ <;> cases e
  · rw [upd_ne]; exact e
    exact fun q => z.1 i hi q.symm
theorem Fol.wr {i : Nat} {o o' : HO} (hi : i < n) (h : H (m.ix i) = some o) (ho : (∃ xs, o = .lst xs) ∨ (∃ kvs, o = .dK kvs) ∨ ∃ kvs, o = .dT kvs) (nt : NT o' := by exact fun _ z => nomatch z) : Fol m n H m n (upd H (m.ix i) o') := by
  have kp := Kp.wr (K := ([] : Frg)) (o' := o') hi h ho
  refine ⟨kp.tup, kp.frz, fun a u _ e z => ?_, fun _ _ => rfl, fun i a b => absurd b (by omega), Nat.le_refl _, fun a e => ?_, fun _ _ => Iff.rfl⟩
  · rw [upd_ne]; exact e
    exact fun q => z i hi q.symm
  · by_cases q : a = m.ix i
    · rw [q]; exact ⟨_, upd_same, nt⟩
    · obtain ⟨u, e1, e2⟩ := e
      exact ⟨u, by rw [upd_ne q]; exact e1, e2⟩
theorem Sim.wr {i : Nat} {o o' : HO} {ob : Ob} (S : Sim K H m st) (hi : i < st.length) (h : H (m.ix i) = some o) (ho : (∃ xs, o = .lst xs) ∨ (∃ kvs, o = .dK kvs) ∨ ∃ kvs, o = .dT kvs) (hob : ObAt K (upd H (m.ix i) o') m st.length (m.ix i) ob) (nt : NT o' := by exact fun _ z => nomatch z) : Sim K (upd H (m.ix i) o') m (st.set i ob) := by
  have kp := Kp.wr (K := K) (o' := o') hi h ho
  have f := Fol.wr (o' := o') hi h ho nt
  have hl : (st.set i ob).length = st.length := List.length_set
  refine ⟨fun j u e => ?_, fun a b ha hb => S.inj a b (hl ▸ ha) (hl ▸ hb), fun a z => f.dom a (S.ff a z), fun j hj => S.fi j (hl ▸ hj), S.tb.wr h ho⟩
  rw [hl]
  by_cases q : i = j
  · subst q
    rw [List.getElem?_set_self hi] at e
    cases e
    exact hob
  · rw [List.getElem?_set_ne q] at e
    have hj : j < st.length := (List.getElem?_eq_some_iff.mp e).1
    have ne : m.ix j ≠ m.ix i := fun z => q (S.inj j i hj hi z).symm
    have old := S.ob j u e
    cases u with
    | lst xs => obtain ⟨vs, h1, h2⟩ := old; exact ⟨vs, by rw [upd_ne ne]; exact h1, h2.mv kp⟩
    | dct kvs => obtain ⟨vs, h1, h2⟩ := old; exact ⟨vs, by rw [upd_ne ne]; exact h1, RpK.kp kp _ _ h2⟩
    | dtt kvs => obtain ⟨vs, h1, h2⟩ := old; exact ⟨vs, by rw [upd_ne ne]; exact h1, RpT.kp kp _ _ h2⟩
    | lkd es => exact Rp.mv old kp
    | lkl xs => exact FzL.mv old kp
    | ins C es => exact InAt.mv old kp fun _ _ e => by rw [upd_ne ne]; exact e
end
/-- a method that writes a list of the store -/
def isLst (st : Sto) (w : Wv) : Bool := match w with
  | .r i => match st[i]? with
    | some (.lst _) => true
    | _ => false
  | _ => false
def eM (g : Wv → List Wv → Sto → Rs Wv) (co : En → Sto → Rs Wv) (cs : En → Sto → Rs (List Wv)) : En → Sto → Rs Wv := fun env st => (co env st).bind fun w st1 => if isLst st1 w = true then (cs env st1).bind fun ws st2 => g w ws st2 else .no
def appW (w : Wv) (ws : List Wv) (st : Sto) : Rs Wv := match w, ws with
  | .r i, [.d y] => match st[i]? with
    | some (.lst xs) => if xs.length < 1000000 then .ok (.d .none) (st.set i (.lst (xs ++ [y]))) else .no
    | _ => .no
  | _, _ => .no
section
variable {M : Md} {X : Cx} {B : Tb} {k : Nat} {pins : List (Addr × Obj)} {σ : L2.St} {H : Hp} {s : Shared} {m : Mp} {env : En} {st : Sto} {W : WX} {pos apos : Pos} {o e : Expr} {es : List Expr} {co ce : En → Sto → Rs Wv} {cs : En → Sto → Rs (List Wv)} {g : Wv → List Wv → Sto → Rs Wv}
theorem slot_at {v : V} {i : Nat} {xs : List PyData} (S : Sim X.K H m st) (r : RW X.K H m st.length v (.r i)) (e : st[i]? = some (.lst xs)) : ∃ us, v = .ref (m.ix i) ∧ H (m.ix i) = some (.lst us) ∧ RpA X.K H (Off m st.length) us xs := by
  obtain ⟨us, h1, h2⟩ := S.ob i _ e
  exact ⟨us, r.2, h1, h2⟩
theorem isLst_ty {v : V} {w : Wv} (S : Sim X.K H m st) (r : RW X.K H m st.length v w) (h : isLst st w = true) : tyV X.K "list" v H := by
  unfold isLst at h
  split at h
  · split at h
    · rename_i i _ xs e
      obtain ⟨us, rfl, h1, _⟩ := slot_at S r e
      exact .inl ⟨rfl, us, .inl (.inl h1)⟩
    · cases h
  · cases h
theorem te_mut {r : V → List V → Hp → VK → Prop} {Q : VK} (h : tE X W (eM g co cs) σ H Q)
    (q : ∀ (m : Mp) (st : Sto) (w : Wv) (ws : List Wv) (st2 : Sto) (v : V) (vs : List V) (H2 : Hp) (m2 : Mp), Fol m st.length H m2 st2.length H2 → Sim X.K H2 m2 st2 → RW X.K H2 m2 st2.length v w → RWs X.K H2 m2 st2.length vs ws → (g w ws st2).post (okE X m st.length H Q) (okX X W m st.length H σ) → r v vs H2 Q) :
    tBM X.K "list" r (tE X W co) (tA X W cs) σ H Q := by
  obtain ⟨m, env, st, S, R, hp⟩ := h
  unfold eM at hp
  rw [Rs.post_bind] at hp
  refine ⟨m, env, st, S, R, Rs.post_mono hp (fun w st1 q1 v H1 m1 f1 S1 r1 => ?_) fun _ _ q => q⟩
  split at q1
  · rename_i hw
    rw [Rs.post_bind] at q1
    exact ⟨isLst_ty S1 r1 hw, m1, env, st1, S1, R.mv f1, Rs.post_mono q1 (fun ws st2 q2 vs H2 m2 f2 S2 r2 => q m st w ws st2 v vs H2 m2 (f1.trans f2) S2 (r1.mv f2) r2 q2) fun _ _ z => okX.tr f1 z⟩
  · exact q1.elim
/-- the end of a write -/
theorem wr_end {H2 : Hp} {m2 : Mp} {st0 st2 : Sto} {i : Nat} {us vs : List V} {ds : List PyData} {x : PyData} {z : V} {Q : VK} {E : Xc → Sto → Prop} (f : Fol m st0.length H m2 st2.length H2) (S : Sim X.K H2 m2 st2) (hi : i < st2.length) (h : H2 (m2.ix i) = some (.lst us))
    (ra : RpA X.K H2 (Off m2 st2.length) vs ds) (rz : Rp X.K H2 (Off m2 st2.length) z x) (q : (Rs.ok (Wv.d x) (st2.set i (.lst ds))).post (okE X m st0.length H Q) E) : Q z (upd H2 (m2.ix i) (.lst vs)) := by
  have f2 : Fol m2 st2.length H2 m2 st2.length (upd H2 (m2.ix i) (.lst vs)) := .wr hi h (.inl ⟨_, rfl⟩)
  have hl : (st2.set i (Ob.lst ds)).length = st2.length := List.length_set
  refine q z _ m2 (by rw [hl]; exact f.trans f2) (S.wr hi h (.inl ⟨_, rfl⟩) ⟨vs, upd_same, ra.mv f2.kp⟩) ?_
  rw [hl]
  exact rz.mv f2.kp
theorem de_append (ho : DE X o co) (ha : DA X [e] cs) (hbase : attributeBase o "append" X.env (eval o X.env) = eval o X.env := by rfl)
    (hfew : ((backTo pos (starEach [e] X.env)).all (fun x => !x.1) && (backToKw pos (keywordEach [] X.env)).all (fun x => x.1.isSome)
      && decide ([e].length + ([] : List Keyword).length + (if ([] : List Keyword).isEmpty then 0 else 1) < 30)) = true := by rfl)
    (hline : (apos.endLine == pos.line) = true := by rfl) (hs : starEach [e] X.env = (false, eval e X.env) :: starEach [] X.env := by rfl) : DE X (.Call (.Attribute o "append" apos) [e] [] pos) (eM appW co cs) := by
  refine ⟨fun W tk => PE.imp (pe_bm PySem.F.plainAttrs_list PySem.F.slot_list_append PySem.F.type_list_append mt_append (ho.pe W tk) (ha.pa W tk) hbase hfew hline hs rfl) fun σ H Q h => te_mut h fun m st w ws st2 v vs H2 m2 f2 S2 r2 rs q => ?_⟩
  unfold appW at q
  split at q
  · split at q
    · rename_i i y _ xs ex
      split at q
      · rename_i hl
        obtain ⟨us, rfl, h1, h2⟩ := slot_at S2 r2 ex
        obtain ⟨u, rfl, ru⟩ := rws1 rs
        have hi : i < st2.length := (List.getElem?_eq_some_iff.mp ex).1
        refine ⟨_, us, u, rfl, rfl, h1, by rw [h2.len]; have := line_lim; omega, ?_⟩
        exact wr_end f2 S2 hi h1 (h2.app (.cons ru .nil)) .non q
      · exact q.elim
    · exact q.elim
  · exact q.elim
/-! ### x[i] = e -/
def dPut (es : List (PyData × PyData)) (k : Key) (c d : PyData) : List (PyData × PyData) := if hasKey es k = true then es.map (fun e => if keyD e.1 = some k then (e.1, d) else e) else es ++ [(c, d)]
theorem rpk_map {Z : Addr → Prop} {H : Hp} {v : V} {d : PyData} {q : Key} (r : Rp X.K H Z v d) : ∀ {ks : List (Key × V)} {es : List (PyData × PyData)}, RpK X.K H Z ks es →
    RpK X.K H Z (ks.map fun kv => if kv.1 = q then (kv.1, v) else kv) (es.map fun e => if keyD e.1 = some q then (e.1, d) else e)
  | [], _, h => by cases h; exact .nil
  | (k0, v0) :: ks, _, h => by
    cases h with
    | cons h0 h1 h2 =>
      simp only [List.map_cons]
      by_cases e : k0 = q
      · rw [if_pos e, if_pos (by rw [h0, e])]
        exact .cons h0 r (rpk_map r h2)
      · rw [if_neg e, if_neg (by rw [h0]; exact fun z => e (Option.some.inj z))]
        exact .cons h0 h1 (rpk_map r h2)
theorem rpk_app {Z : Addr → Prop} {H : Hp} {v : V} {c d : PyData} {q : Key} (e : keyD c = some q) (r : Rp X.K H Z v d) : ∀ {ks : List (Key × V)} {es : List (PyData × PyData)}, RpK X.K H Z ks es → RpK X.K H Z (ks ++ [(q, v)]) (es ++ [(c, d)])
  | [], _, h => by cases h; exact .cons e r .nil
  | (k0, v0) :: ks, _, h => by cases h with | cons h0 h1 h2 => exact .cons h0 h1 (rpk_app e r h2)
theorem rpk_put {Z : Addr → Prop} {H : Hp} {v : V} {c d : PyData} {q : Key} {ks : List (Key × V)} {es : List (PyData × PyData)} (e : keyD c = some q) (r : Rp X.K H Z v d) (h : RpK X.K H Z ks es) : RpK X.K H Z (L2.putK ks q v) (dPut es q c d) := by
  unfold L2.putK dPut
  rw [valV_any, valV_has q h]
  split
  · exact rpk_map r h
  · exact rpk_app e r h
theorem rt_key {Z : Addr → Prop} {H : Hp} {v : V} {c : PyData} {q : Key} (h : RT X.K H Z v c) (e : keyD c = some q) : v = kV q := by
  unfold keyD at e
  split at e
  · cases e; exact h.int
  · cases e; exact h.str
  · cases e
def dPutT (es : List (PyData × PyData)) (k : List Key) (c d : PyData) : List (PyData × PyData) := if (dLookT es k).isSome = true then es.map (fun e => if tkD e.1 = some k then (e.1, d) else e) else es ++ [(c, d)]
theorem rpt_map {Z : Addr → Prop} {H : Hp} {v : V} {d : PyData} {q : List Key} (r : Rp X.K H Z v d) : ∀ {ks : List (List Key × V)} {es : List (PyData × PyData)}, RpT X.K H Z ks es →
    RpT X.K H Z (ks.map fun kv => if kv.1 = q then (kv.1, v) else kv) (es.map fun e => if tkD e.1 = some q then (e.1, d) else e)
  | [], _, h => by cases h; exact .nil
  | (k0, v0) :: ks, _, h => by
    cases h with
    | cons h0 h1 h2 =>
      simp only [List.map_cons]
      by_cases e : k0 = q
      · rw [if_pos e, if_pos (by rw [h0, e])]
        exact .cons h0 r (rpt_map r h2)
      · rw [if_neg e, if_neg (by rw [h0]; exact fun z => e (Option.some.inj z))]
        exact .cons h0 h1 (rpt_map r h2)
theorem rpt_app {Z : Addr → Prop} {H : Hp} {v : V} {c d : PyData} {q : List Key} (e : tkD c = some q) (r : Rp X.K H Z v d) : ∀ {ks : List (List Key × V)} {es : List (PyData × PyData)}, RpT X.K H Z ks es → RpT X.K H Z (ks ++ [(q, v)]) (es ++ [(c, d)])
  | [], _, h => by cases h; exact .cons e r .nil
  | (k0, v0) :: ks, _, h => by cases h with | cons h0 h1 h2 => exact .cons h0 h1 (rpt_app e r h2)
theorem rpt_put {Z : Addr → Prop} {H : Hp} {v : V} {c d : PyData} {q : List Key} {ks : List (List Key × V)} {es : List (PyData × PyData)} (e : tkD c = some q) (r : Rp X.K H Z v d) (h : RpT X.K H Z ks es) : RpT X.K H Z (L2.putK ks q v) (dPutT es q c d) := by
  unfold L2.putK dPutT
  rw [valV_any, valV_hasT q h]
  split
  · exact rpt_map r h
  · exact rpt_app e r h
/-- a key's tuple that the top has not written -/
theorem rt_tkey {Z : Addr → Prop} {H : Hp} {v : V} {c : PyData} {q : List Key} (h : RT X.K H Z v c) (e : tkD c = some q) (hw : NoW c) : ∃ b, v = .ref b ∧ H b = some (.tup (q.map kV)) := by
  cases c with
  | tuple ds =>
    obtain ⟨b, vs, rfl, h1, h2⟩ := h.tupT
    obtain ⟨b2, e2, h3⟩ := tkD_v h e
    cases e2
    rcases h1 with ⟨_, h1⟩ | h1 | ⟨z, _⟩
    · refine ⟨b, rfl, ?_⟩
      have : ∀ {vs : List V} {ds : List PyData} {k : List Key}, RpA X.K H Z vs ds → keysD ds = some k → vs = k.map kV := by
        intro vs ds
        induction ds generalizing vs with
        | nil => intro k r e; cases e; cases r; rfl
        | cons d ds ih =>
          intro k r e
          unfold keysD at e
          split at e
          · rename_i k0 ks e1 e2
            cases e
            cases r with
            | cons r1 r2 => rw [List.map_cons, ih r2 e2, keyD_v (Z := Z) (.inl r1) e1]
          · cases e
      rw [this h2 (show keysD ds = some q from e)] at h1
      exact h1
    · exact absurd h1.2.1 hw.1
    · rw [hw.2] at z; cases z
  | _ => cases e
open Classical in
noncomputable def setW (w j : Wv) (y : PyData) (st : Sto) : Option Sto := match w with
  | .r n => match st[n]?, look st j with
    | some (.lst xs), some (.int t) => (ixN xs.length t).map fun q => st.set n (.lst (xs.set q y))
    | some (.dct es), some c => match keyD c with
      | some q => if es.length < 1000000 then some (st.set n (.dct (dPut es q c y))) else none
      | none => none
    | some (.dtt es), some c => match tkD c with
      | some q => if es.length < 1000000 ∧ NoW c then some (st.set n (.dtt (dPutT es q c y))) else none
      | none => none
    | _, _ => none
  | _ => none
noncomputable def sIx (co ci ce : En → Sto → Rs Wv) : En → Sto → SR := fun env st => (ce env st).sb fun x st1 => (co env st1).sb fun w st2 => (ci env st2).sb fun j st3 => match x with
  | .d y => match setW w j y st3 with
    | some st4 => .nx env st4
    | none => .no
  | _ => .no
def rSetB : TSet := fun o i v H Q => rSetL o i v H Q ∨ rSetD o i v H Q
theorem set_both (hu : X.A.units + 1 < cLine) : PSet X rSetB := by
  intro pins s σ H o i v ov iv u Q I ro ri rv h
  rcases h with h | h
  · exact set_list pins s σ H o i v ov iv u Q I ro ri rv h
  · exact set_dict hu pins s σ H o i v ov iv u Q I ro ri rv h
theorem setW_ok {D : Ends} {w j : Wv} {y : PyData} {st0 st4 : Sto} {ov iv v : V} {R : Hp → Prop} (S : Sim X.K H m st) (rw' : RW X.K H m st.length ov w) (rj : RW X.K H m st.length iv j) (ry : Rp X.K H (Off m st.length) v y) (e : setW w j y st = some st4)
    (q : ∀ H', Fol m st.length H m st4.length H' → Sim X.K H' m st4 → R H') : rSetB ov iv v H R := by
  unfold setW at e
  split at e
  · rename_i n
    split at e
    · rename_i xs t e1 e2
      have hi : n < st.length := (List.getElem?_eq_some_iff.mp e1).1
      obtain ⟨us, h1, h2⟩ := S.ob n _ e1
      cases e3 : ixN xs.length t with
      | none => rw [e3] at e; cases e
      | some z =>
        rw [e3] at e
        cases e
        have f2 : Fol m st.length H m st.length (upd H (m.ix n) (.lst (us.set z v))) := .wr hi h1 (.inl ⟨_, rfl⟩)
        have hl : (st.set n (Ob.lst (xs.set z y))).length = st.length := List.length_set
        refine .inl ⟨m.ix n, us, t, z, rw'.2, (look_rt S rj e2).int, h1, by rw [h2.len]; exact e3, ?_⟩
        exact q _ (by rw [hl]; exact f2) (S.wr hi h1 (.inl ⟨_, rfl⟩) ⟨_, upd_same, (RpA.set ry z h2).mv f2.kp⟩)
    · rename_i es c e1 e2
      have hi : n < st.length := (List.getElem?_eq_some_iff.mp e1).1
      obtain ⟨ks, h1, h2⟩ := S.ob n _ e1
      split at e
      · rename_i z ez
        split at e
        · rename_i hlt
          cases e
          have f2 : Fol m st.length H m st.length (upd H (m.ix n) (.dK (L2.putK ks z v))) := .wr hi h1 (.inr (.inl ⟨_, rfl⟩))
          have hl : (st.set n (Ob.dct (dPut es z c y))).length = st.length := List.length_set
          refine .inr ⟨m.ix n, _, rw'.2, by rw [rt_key (look_rt S rj e2) ez]; exact .k h1 (by rw [h2.len]; have := line_lim; omega), ?_⟩
          exact q _ (by rw [hl]; exact f2) (S.wr hi h1 (.inr (.inl ⟨_, rfl⟩)) ⟨_, upd_same, RpK.kp f2.kp _ _ (rpk_put ez ry h2)⟩)
        · cases e
      · cases e
    · rename_i es c e1 e2
      have hi : n < st.length := (List.getElem?_eq_some_iff.mp e1).1
      obtain ⟨ks, h1, h2⟩ := S.ob n _ e1
      split at e
      · rename_i z ez
        split at e
        · rename_i hlt
          cases e
          have f2 : Fol m st.length H m st.length (upd H (m.ix n) (.dT (L2.putK ks z v))) := .wr hi h1 (.inr (.inr ⟨_, rfl⟩))
          have hl : (st.set n (Ob.dtt (dPutT es z c y))).length = st.length := List.length_set
          obtain ⟨b, rfl, hb⟩ := rt_tkey (look_rt S rj e2) ez hlt.2
          refine .inr ⟨m.ix n, _, rw'.2, .t h1 hb (by rw [h2.len]; have := line_lim; omega), ?_⟩
          exact q _ (by rw [hl]; exact f2) (S.wr hi h1 (.inr (.inr ⟨_, rfl⟩)) ⟨_, upd_same, RpT.kp f2.kp _ _ (rpt_put ez ry h2)⟩)
        · cases e
      · cases e
    · cases e
  · cases e
theorem ds_setix (c : Cxt M X B k) {oe ie : Expr} {ci : En → Sto → Rs Wv} {p2 : Pos} (ho : DE X oe co) (hi : DE X ie ci) (he : DE X e ce) (hs : swapsWithSole [.Subscript oe ie p2] e pos.line X.env = pure false := by rfl) (hw : swappedStores [.Subscript oe ie p2] e X.env = pure none := by rfl)
    (h1 : (assignEach [.Subscript oe ie p2] X.env).map (·.2) = [assign (.Subscript oe ie p2) X.env] := by rfl)
    (ha : ∀ v, assign (.Subscript oe ie p2) X.env v = (do
      let ov ← holding [v] (eval oe X.env)
      let iv ← holding [v, ov] (eval ie X.env)
      standAt p2
      holding [v, ov, iv] (setItem ov iv v)
      release [v, ov, iv] []) := by intro _; rfl) : DS X (.Assign [.Subscript oe ie p2] e pos) (sIx co ci ce) := by
  refine ⟨fun W tk => PS.imp (ps_asg (he.pe W tk) (pg_sub (ho.pe W tk) (hi.pe W tk) (set_both (room_eq c.roomH (show 1 ≤ 60 by decide))) ha) hs hw h1) fun D σ H ⟨m, env, st, S, R, hp⟩ => ?_⟩
  unfold sIx at hp
  rw [Rs.post_sb] at hp
  refine ⟨m, env, st, S, R, Rs.post_mono hp (fun x st1 q v H1 m1 f1 S1 r1 => ?_) fun _ _ h => h.x⟩
  rw [Rs.post_sb] at q
  refine ⟨m1, env, st1, S1, R.mv f1, Rs.post_mono q (fun w st2 q ov H2 m2 f2 S2 r2 => ?_) fun _ _ h => (okXs.tr f1 h).x⟩
  rw [Rs.post_sb] at q
  refine ⟨m2, env, st2, S2, (R.mv f1).mv f2, Rs.post_mono q (fun j st3 q iv H3 m3 f3 S3 r3 => ?_) fun _ _ h => (okXs.tr (f1.trans f2) h).x⟩
  split at q
  · split at q
    · rename_i y st4 e4
      exact setW_ok (D := D) (st0 := st) S3 (r2.mv f3) r3 ((r1.mv f2).mv f3) e4 fun H' f4 S4 => q σ H' m3 (((f1.trans f2).trans f3).trans f4) S4 ((((R.mv f1).mv f2).mv f3).mv f4)
    · exact q.elim
  · exact q.elim
/-- x[a, b] = e: the key is a new tuple -/
def setWT (w : Wv) (c y : PyData) (st : Sto) : Option Sto := match w with
  | .r n => match st[n]? with
    | some (.dtt es) => match tkD c with
      | some q => if es.length < 1000000 then some (st.set n (.dtt (dPutT es q c y))) else none
      | none => none
    | _ => none
  | _ => none
def sIxT (co : En → Sto → Rs Wv) (cs : En → Sto → Rs (List Wv)) (ce : En → Sto → Rs Wv) : En → Sto → SR := fun env st => (ce env st).sb fun x st1 => (co env st1).sb fun w st2 => (cs env st2).sb fun js st3 => match x with
  | .d y => match allD js with
    | some ds => if ds.length ≤ 1000000 then (match setWT w (.tuple ds) y st3 with
      | some st4 => .nx env st4
      | none => .no) else .no
    | none => .no
  | _ => .no
theorem keys_v {X : Cx} {H : Hp} {Z : Addr → Prop} : ∀ {vs : List V} {ds : List PyData} {k : List Key}, RpA X.K H Z vs ds → keysD ds = some k → vs = k.map kV
  | _, _, _, .nil, e => by cases e; rfl
  | _, _, _, .cons r1 r2, e => by
    unfold keysD at e
    split at e
    · rename_i k0 ks e1 e2
      cases e
      rw [List.map_cons, keys_v r2 e2, keyD_v (X := X) (Z := Z) (.inl r1) e1]
    · cases e
theorem ds_setixT (c : Cxt M X B k) {oe : Expr} {es : List Expr} {cs : En → Sto → Rs (List Wv)} {p2 p4 : Pos} {jj : Nat} (ho : DE X oe co) (hi : DA X es cs) (he : DE X e ce) (hs : swapsWithSole [.Subscript oe (.Tuple es jj p4) p2] e pos.line X.env = pure false := by rfl) (hw : swappedStores [.Subscript oe (.Tuple es jj p4) p2] e X.env = pure none := by rfl)
    (h1 : (assignEach [.Subscript oe (.Tuple es jj p4) p2] X.env).map (·.2) = [assign (.Subscript oe (.Tuple es jj p4) p2) X.env] := by rfl)
    (ha : ∀ v, assign (.Subscript oe (.Tuple es jj p4) p2) X.env v = (do
      let ov ← holding [v] (eval oe X.env)
      let iv ← holding [v, ov] (eval (.Tuple es jj p4) X.env)
      standAt p2
      holding [v, ov, iv] (setItem ov iv v)
      release [v, ov, iv] []) := by intro _; rfl) : DS X (.Assign [.Subscript oe (.Tuple es jj p4) p2] e pos) (sIxT co cs ce) := by
  refine ⟨fun W tk => PS.imp (ps_asg (he.pe W tk) (pg_sub (ho.pe W tk) (pe_tup (hi.pa W tk)) (set_both (room_eq c.roomH (show 1 ≤ 60 by decide))) ha) hs hw h1) fun D σ H ⟨m, env, st, S, R, hp⟩ => ?_⟩
  unfold sIxT at hp
  rw [Rs.post_sb] at hp
  refine ⟨m, env, st, S, R, Rs.post_mono hp (fun x st1 q v H1 m1 f1 S1 r1 => ?_) fun _ _ h => h.x⟩
  rw [Rs.post_sb] at q
  refine ⟨m1, env, st1, S1, R.mv f1, Rs.post_mono q (fun w st2 q ov H2 m2 f2 S2 r2 => ?_) fun _ _ h => (okXs.tr f1 h).x⟩
  rw [Rs.post_sb] at q
  refine ⟨m2, env, st2, S2, (R.mv f1).mv f2, Rs.post_mono q (fun js st3 q iv H3 m3 f3 S3 r3 => ?_) fun _ _ h => (okXs.tr (f1.trans f2) h).x⟩
  cases x with
  | r i => exact q.elim
  | x a c d => exact q.elim
  | d y =>
    dsimp only at q
    split at q
    rotate_left
    · exact q.elim
    rename_i ds e1
    split at q
    · rename_i hl
      split at q
      · rename_i st4 e4
        have ra := allD_rp r3 e1
        refine ⟨by rw [ra.len]; exact Nat.le_trans hl line_lim, fun p hn => ?_⟩
        have g := grow_upd (o := .tup iv) hn
        have f4 : Fol m3 st3.length H3 m3 st3.length (upd H3 p (.tup iv)) := .same g
        have S4 := S3.grow g
        unfold setWT at e4
        split at e4
        · rename_i n
          split at e4
          · rename_i es0 e5
            split at e4
            · rename_i z ez
              split at e4
              · rename_i hlt
                cases e4
                have hn3 : n < st3.length := (List.getElem?_eq_some_iff.mp e5).1
                obtain ⟨ks, h1, h2⟩ := S4.ob n _ e5
                have rw' := (r2.mv f3).mv f4
                have ry : Rp X.K (upd H3 p (.tup iv)) (Off m3 st3.length) v y := ((r1.mv f2).mv f3).mv f4
                have f5 : Fol m3 st3.length (upd H3 p (.tup iv)) m3 st3.length (upd (upd H3 p (.tup iv)) (m3.ix n) (.dT (L2.putK ks z v))) := .wr hn3 h1 (.inr (.inr ⟨_, rfl⟩))
                have hl2 : (st3.set n (Ob.dtt (dPutT es0 z (.tuple ds) y))).length = st3.length := List.length_set
                have hb : (upd H3 p (.tup iv)) p = some (.tup (z.map kV)) := by rw [upd_same, keys_v ra ez]
                refine .inr ⟨m3.ix n, _, rw'.2, .t h1 hb (by rw [h2.len]; have := line_lim; omega), ?_⟩
                have S5 : Sim X.K (upd (upd H3 p (.tup iv)) (m3.ix n) (.dT (L2.putK ks z v))) m3 (st3.set n (Ob.dtt (dPutT es0 z (.tuple ds) y))) := S4.wr hn3 h1 (.inr (.inr ⟨_, rfl⟩)) ⟨_, upd_same, RpT.kp f5.kp _ _ (rpt_put ez ry h2)⟩
                exact q σ _ m3 (by rw [hl2]; exact (((f1.trans f2).trans f3).trans f4).trans f5) S5 (by rw [hl2]; exact ((((R.mv f1).mv f2).mv f3).mv f4).mv f5)
              · cases e4
            · cases e4
          · cases e4
        · cases e4
      · exact q.elim
    · exact q.elim
end
end
section
variable [Wtp] [Tbl]
/-! ## max, min of two ints; t[::-1]; index in a written tuple -/
def max2F : List PyData → Option PyData
  | [.int i, .int j] => some (.int (if j > i then j else i))
  | _ => none
def min2F : List PyData → Option PyData
  | [.int i, .int j] => some (.int (if j < i then j else i))
  | _ => none
section
variable {X : Cx}
theorem c_max2 (hc : X.calm = true) : CallR X (.builtin "max") (rN X.K max2F) := by
  intro pins s σ H xs us Q I r ⟨Z, ds, e, hz, hd, hf, ho⟩
  unfold max2F at hf
  split at hf
  · cases hf
    obtain ⟨v, w, rfl, h1, h2⟩ := rts2 hd
    cases h1.int
    cases h2.int
    exact call_max2 hc pins s σ H _ us Q I r ⟨_, _, rfl, rout_here ho (.int _)⟩
  · cases hf
theorem c_min2 (hc : X.calm = true) : CallR X (.builtin "min") (rN X.K min2F) := by
  intro pins s σ H xs us Q I r ⟨Z, ds, e, hz, hd, hf, ho⟩
  unfold min2F at hf
  split at hf
  · cases hf
    obtain ⟨v, w, rfl, h1, h2⟩ := rts2 hd
    cases h1.int
    cases h2.int
    exact call_min2 hc pins s σ H _ us Q I r ⟨_, _, rfl, rout_here ho (.int _)⟩
  · cases hf
end
section
variable {M : Md} {X : Cx} {B : Tb} {k : Nat} {σ : L2.St} {H : Hp} {W : WX} {c : En → Sto → Rs Wv}
/-! ### x.index(e), x a written tuple of texts -/
def idxS (ys : List Str) (z : Str) : Option Nat := ys.findIdx? fun y => decide (y = z)
def eGix (ys : List Str) (cs : En → Sto → Rs (List Wv)) : En → Sto → Rs Wv := fun env st => (cs env st).bind fun ws st1 => match ws with
  | [.d (.str z)] => match idxS ys z with
    | some i => .ok (.d (.int (i : Nat))) st1
    | none => .no
  | _ => .no
end
end
section
variable [Wtp] [Tbl]
/-! ## the law's own call -/
theorem sysM_of {h : Heap} (x : h.NoSeer) : SysM h := by
  obtain ⟨mm, ⟨o, es, ep, e, d, _⟩, _⟩ := x.mods
  exact ⟨o, es, ep, e, d⟩
theorem law_run (hT : Tbl.T = []) {g : Bool} {P : Program} {w : World} {K : Frg} {mg mb : Str → Option Value} {k : Nat} {fa a : Addr} {fd : FuncData} {x : Str} {mf : List Wv → Sto → Rs Wv} {st9 : Sto} {s : Shared} {us : List Value} {ns : List Int}
    (inK : K.In s.heap) (glob : s.heap.Ns mainGlobals mg) (bns : s.heap.Ns builtinsNs mb) (bok : ∀ x : Str, x ≠ "__name__" → mb x = bootBuiltins x) (nolim : s.heap.NoLimit) (sm : SysM s.heap) (hgen : s.gens = #[])
    (hobj : s.heap.get? a = some { cls := .type "list", data := .seq us.toArray }) (hint : IntsAre us ns) (hlen : ns.length ≤ sizeLine) (room : Room k callerA)
    (F : ∀ base : Heap, K.In base → base.Ns mainGlobals mg → SysM base → Fnk ⟨P, w, K, mg, base⟩ g k fa fd [x] mf) (bind : ∀ (s : Shared) (u : Value), BindsTo s fd ⟨[u], []⟩ [(x, u)])
    (law : mf [.d (.list (ns.map .int))] [] = .ok (.d (.bool true)) st9) :
    codeAny (model P w) callerA (.call (.ref fa) ⟨[.ref a], []⟩) (fun r s' => r = .ok (.ret (.bool true)) ∧ OldK s.heap s'.heap ∧ s'.os = s.os ∧ AllBare s'.gens) s := by
  have rel := vals_ints hint
  have ulen := hint.length
  have go : ∀ H : Hp, (∀ b u, H b = some u → b = a ∧ ∃ o, u = .frz o (.lst (ns.map V.int)) ∧ s.heap.get? b = some o) → LsX K H a (ns.map V.int) → HOk P w H s.heap → (H a ≠ none → K.lookup a = none) →
      codeAny (model P w) callerA (.call (.ref fa) ⟨[.ref a], []⟩) (fun r s' => r = .ok (.ret (.bool true)) ∧ OldK s.heap s'.heap ∧ s'.os = s.os ∧ AllBare s'.gens) s := by
    intro H only ls ok away
    have base0 : ∀ {b : Addr} {o : Obj}, s.heap.get? b = some o → H b = none → (hidT s.heap H).get? b = some o := fun e n => hidT_get e n
    have free : ∀ {b : Addr} {o : Obj} {es : Array DictEntry} {ep : Nat}, s.heap.get? b = some o → o.data = .dict es ep → H b = none := fun {b o es ep} e d => by
      cases q : H b with
      | none => rfl
      | some u =>
        obtain ⟨rfl, _⟩ := only b u q
        rw [hobj] at e
        cases e
        exact absurd (show Data.seq us.toArray _ = Data.dict es ep from d) fun z => nomatch z
    have ns' : ∀ {b : Addr} {m : Str → Option Value}, s.heap.Ns b m → (hidT s.heap H).Ns b m := fun {b m} h => by
      obtain ⟨o, es, ep, e, d, r⟩ := h
      exact ⟨o, es, ep, base0 e (free e d), d, r⟩
    have inB : K.In (hidT s.heap H) := fun b o e => base0 (inK b o e) (by
      cases q : H b with
      | none => rfl
      | some u =>
        obtain ⟨rfl, _⟩ := only b u q
        rw [away (by rw [q]; exact fun z => nomatch z)] at e
        cases e)
    obtain ⟨mc, lim1, lim2⟩ := nolim
    have hmod : Mod K mg (hidT s.heap H) := ⟨inB, ns' glob, ⟨mb, ns' bns, bok⟩, ⟨mc, ns' lim1, lim2⟩⟩
    have env : Env0 P w K mg (hidT s.heap H) callerA [] s H := ⟨rfl, hmod, fun b o e => of_hidT e, Nat.le_of_eq (hidT_size _ _), trivial, fun b hb => absurd hb List.not_mem_nil, ok, .of_eq hgen⟩
    have S : Sim K H ⟨fun _ => a, fun _ => False⟩ [] := ⟨fun i o e => by simp at e, fun i j hi => absurd hi (Nat.not_lt_zero _), fun b z => z.elim, fun i hi => absurd hi (Nat.not_lt_zero _), fun p hp => by rw [hT] at hp; exact absurd hp List.not_mem_nil⟩
    have items : ∀ l : List Int, RpA K H (Off ⟨fun _ => a, fun _ => False⟩ 0) (l.map V.int) (l.map PyData.int) := fun l => by
      induction l with
      | nil => exact .nil
      | cons i l ih => exact .cons (.int i) ih
    have off : Off ⟨fun _ => a, fun _ => False⟩ 0 a := ⟨fun i hi => absurd hi (Nat.not_lt_zero _), fun z => z⟩
    have arg : RWs K H ⟨fun _ => a, fun _ => False⟩ 0 [.ref a] [.d (.list (ns.map .int))] := .cons (.lst (by
      rcases ls with ⟨h, _⟩ | h | h
      · exact .inl ⟨h, off⟩
      · exact .inr (.inl h)
      · exact .inr (.inr h)) (items ns)) .nil
    refine codeAny_mono ((F _ inB (ns' glob) (let ⟨o, es, ep, e, d⟩ := sm; ⟨o, es, ep, base0 e (free e d), d⟩)).run callerA [] s H ⟨[.ref a], []⟩ [.ref a] [.ref a] _ _ [] (fun v _ => v = .bl true) (fun _ _ _ => False) room (fun _ => rfl) env (bind s (.ref a)) (.cons rfl .nil) S arg (by
      rw [law]
      intro v H' m' f S' r
      cases r
      rfl)) fun r s' hr => ?_
    cases r with
    | error e =>
      obtain ⟨_, _, _, _, _, _, _, _, _, _, _, _, z⟩ := hr
      exact z.elim
    | ok fl =>
      cases fl with
      | next => exact hr.elim
      | brk => exact hr.elim
      | cont => exact hr.elim
      | ret u =>
        obtain ⟨v, H', os, bare, un, ok', rv, ev⟩ := hr
        have ev : v = .bl true := ev
        subst ev
        cases (show u = Value.bool true from rv)
        refine ⟨rfl, OldK.of_keep fun b o e => ?_, os, bare⟩
        cases q : H b with
        | none => exact un.keep b o e q (fun z => absurd z List.not_mem_nil) List.not_mem_nil
        | some u =>
          obtain ⟨rfl, ob, rfl, e1⟩ := only b u q
          rw [e] at e1
          cases e1
          exact (ok' _ _ (un.frzs _ _ _ q)).1
  cases hk : K.lookup a with
  | some o =>
    have e := inK a o hk
    rw [hobj] at e
    cases e
    refine go (fun _ => none) (fun b u z => nomatch z) (.inr (.inr ⟨us.toArray, _, hk, by rw [List.size_toArray, ulen]; exact hlen, by simpa using rel⟩)) (fun b u z => nomatch z) fun z => absurd rfl z
  | none =>
    have one : ∀ {b u}, (if b = a then some (HO.frz { cls := .type "list", data := .seq us.toArray } (.lst (ns.map V.int))) else none) = some u → b = a ∧ u = .frz { cls := .type "list", data := .seq us.toArray } (.lst (ns.map V.int)) := fun {b u} z => by
      split at z
      · cases z; exact ⟨by assumption, rfl⟩
      · cases z
    refine go (fun b => if b = a then some (.frz { cls := .type "list", data := .seq us.toArray } (.lst (ns.map V.int))) else none) (fun b u z => ?_) (.inr (.inl ⟨_, if_pos rfl⟩)) (fun b u z => ?_) fun _ => hk
    · obtain ⟨rfl, rfl⟩ := one z
      exact ⟨rfl, _, rfl, hobj⟩
    · obtain ⟨rfl, rfl⟩ := one z
      exact ⟨hobj, by rw [List.length_map]; exact hlen, us, _, rel, hobj⟩
theorem walk_run (hT : Tbl.T = []) {g : Bool} {l : PySem.W.OpenLaw} {n k : Nat} {q : Program} {loose : List Str} {XP : (Str → Option Value) → Heap → Prop} {YP : World → Heap → Prop} {d : DefRec} {K : Params → Frg} {x : Str} {mf : List Wv → Sto → Rs Wv}
    (hI : importsNone q = true) (hn : l.most = some n) (hn2 : n ≤ sizeLine) (hdf : d.params.defaults = []) (hr : Room k callerA) (hY : ∀ (w : World) (h : Heap), YP w h → (K w.params).In h)
    (F : ∀ (w : World) (mg : Str → Option Value) (fa : Addr) (h : Heap), (K w.params).In h → h.Ns mainGlobals mg → mg d.name = some (.ref fa) →
      ∃ fd : FuncData, (∀ (s : Shared) (u : Value), BindsTo s fd ⟨[u], []⟩ [(x, u)]) ∧ ∀ base : Heap, (K w.params).In base → base.Ns mainGlobals mg → SysM base → Fnk ⟨l.prog, w, K w.params, mg, base⟩ g k fa fd [x] mf)
    (law : ∀ ns : List Int, ns.length ≤ n → ∃ st, mf [.d (.list (ns.map .int))] [] = .ok (.d (.bool true)) st) :
    PySem.W.WalkO q loose XP YP l.row.toRowW d [] (fun f vs => PySem.call f vs) := by
  refine Att.attach_call hn hdf fun w s0 s mg mb fa o pm cd doc a us ns G Y ho hd hcd hmg hobj hints hlen hg => ?_
  have inK := hY w _ Y
  obtain ⟨fd, hb, hF⟩ := F w mg fa _ inK G.T.g hmg
  obtain ⟨st, hl⟩ := law ns hlen
  exact law_run hT inK G.T.g G.T.b G.T.builtins G.T.nolimit (sysM_of (G.T.seer hI)) hg hobj hints (Nat.le_trans hlen hn2) hr hF hb hl
end
section
variable [Wtp] [Tbl]
/-! ## a, b = x, y: which stores -/
section
variable {M : Md} {X : Cx} {B : Tb} {k : Nat} {x y z : Str} {px py pz pt pt2 : Pos} {kt k2 : Nat} {a b e : Expr}
/-! ## the module's defs -/
def Has (M : Md) (g : Bool) (k : Nat) (x : Str) (ps : List Str) (mf : List Wv → Sto → Rs Wv) : Prop := ∃ f fd, M.mg x = some (.ref f) ∧ PySem.W.keepIn M.K (.ref f) = true ∧ Binds M.K fd ps [] ∧ Fnk M g k f fd ps mf
theorem Has.up {g : Bool} {ps : List Str} {mf : List Wv → Sto → Rs Wv} {j : Nat} (h : Has M g j x ps mf) (hj : j ≤ k) : Has M g k x ps mf := by
  obtain ⟨f, fd, h1, h2, h3, h4⟩ := h
  exact ⟨f, fd, h1, h2, h3, h4.mono hj⟩
theorem de_fn {g : Bool} {ps : List Str} {mf : List Wv → Sto → Rs Wv} {cs : En → Sto → Rs (List Wv)} {p pos : Pos} {es : List Expr} (c : Cxt M X B k) (F : Has M g k x ps mf) (j : Nat) (hg : B.gs[j]? = some x) (ha : DA X (e :: es) cs) (hgd : g = true → B.gd = true := by first | exact fun _ => rfl | exact fun z => Bool.noConfusion z) (hdb : (x == ("__debug__" : Str)) = false := by decide)
    (he : starEach (e :: es) X.env = (false, eval e X.env) :: starEach es X.env := by rfl) (hpl : (backTo pos (starEach es X.env)).any (·.1) = false := by rfl) : DE X (.Call (.Name x p) (e :: es) [] pos) (eCall mf cs) := by
  obtain ⟨f, fd, h1, h2, h3, h4⟩ := F
  exact de_call c h4 j hg h1 h2 h3 ha hgd hdb he hpl
/-- a def as the top has written it -/
structure TopFn (M : Md) (x : Str) (sf : Stmt) (ps : List Str) : Prop where
  at' : ∃ (f : Addr) (od an : Option Addr) (sl : Array (Option Value)) (oc kV dc pm cd ct : Value), M.mg x = some (.ref f) ∧ M.K.lookup f = some ⟨oc, od, .func (PySem.W.fnOf x x (defArgs sf) (defBody sf) (defScope sf) .none kV dc pm an cd ct), sl⟩ ∧
    PySem.W.codeIn M.K cd x = true ∧ PySem.W.keepIn M.K (.ref f) = true ∧ Binds M.K (PySem.W.fnOf x x (defArgs sf) (defBody sf) (defScope sf) .none kV dc pm an cd ct) ps []
/-- a def of the module that makes lambdas -/
structure LamT (M : Md) (x q : Str) : Prop where
  nm : (x ++ ".<locals>.") ++ "<lambda>" = q
  at' : ∃ c P : Addr, (∀ (f : Addr) (oc : Value) (od : Option Addr) (fd : FuncData) (sl : Array (Option Value)), M.mg x = some (.ref f) → M.K.lookup f = some ⟨oc, od, .func fd, sl⟩ → fd.code = .ref c) ∧ (P, q) ∈ Tbl.T ∧ (∀ p ∈ Tbl.T, p.1 = P → p.2 = q) ∧ LamX.TabB M.base M.mg c P
theorem LamT.to {q : Str} {f : Addr} {oc : Value} {od : Option Addr} {fd : FuncData} {sl : Array (Option Value)} (T : LamT M x q) (h1 : M.mg x = some (.ref f)) (h2 : M.K.lookup f = some ⟨oc, od, .func fd, sl⟩) : (x ++ ".<locals>.") ++ "<lambda>" = q ∧ LamC M.mg M.base q fd.code := by
  obtain ⟨c, P, e1, e2, e3, e4⟩ := T.at'
  exact ⟨T.nm, ⟨c, P, e1 f oc od fd sl h1 h2, e2, e3, e4⟩⟩
theorem has_of {sf : Stmt} {ps : List Str} {cb : En → Sto → SR} {np nN : Nat} (T : TopFn M x sf ps) (SC : FnScope B.N ps (defScope sf)) (hT : fnT B (defScope sf) = true) (hnp : ps.length = np) (hnN : B.N.length = nN)
    (hb : ∀ X : Cx, Cxt M X B k → DB X (defBody sf) cb) (hlam : ∀ q, B.lq = some q → LamT M x q := by intro _ h; exact nomatch (show (none : Option Str) = some _ from h)) : Has M B.gd (k + 1) x ps (mkF np nN cb) := by
  obtain ⟨f, od, an, sl, oc, kV, dc, pm, cd, ct, h1, h2, h3, h4, h5⟩ := T.at'
  exact ⟨f, _, h1, h4, h5, fnk_of h2 h3 SC hT hnp hnN hb (fun q hq => (hlam q hq).to h1 h2)⟩
/-! ## the module's constants -/
def Gw (M : Md) (x : Str) (y : PyData) : Prop := ∃ u v, M.mg x = some u ∧ RelV v u ∧ ∀ H Z, Rp M.K H Z v y
theorem de_gw {y : PyData} {p : Pos} (c : Cxt M X B k) (j : Nat) (h : B.gs[j]? = some x) (g : Gw M x y) (hd : (x == ("__debug__" : Str)) = false := by decide) : DE X (.Name x p) (eK y) := by
  obtain ⟨u, v, h1, h2, h3⟩ := g
  exact de_glob c j h h1 h2 h3 hd
theorem top_mk {h : Heap} {sf : Stmt} {ps : List Str} {f : Addr} {od an : Option Addr} {sl : Array (Option Value)} {oc kV dc pm cd ct : Value} (inK : M.K.In h) (G : h.Ns mainGlobals M.mg) (a : PySem.W.nsIn M.K mainGlobals x = some (some (.ref f)))
    (l : M.K.lookup f = some ⟨oc, od, .func (PySem.W.fnOf x x (defArgs sf) (defBody sf) (defScope sf) .none kV dc pm an cd ct), sl⟩) (cc : PySem.W.codeIn M.K cd x = true) (kk : PySem.W.keepIn M.K (.ref f) = true)
    (hb : ∀ us : List Value, us.length = ps.length → bindArgs (PySem.W.fnOf x x (defArgs sf) (defBody sf) (defScope sf) .none kV dc pm an cd ct) ⟨us, []⟩ = pure (ps.zip us)) : TopFn M x sf ps :=
  ⟨f, od, an, sl, oc, kV, dc, pm, cd, ct, PySem.W.mg_of inK G a, l, cc, kk, .all hb⟩
/-- a value that the top has written -/
def Wr (K : Frg) (u : Value) (d : PyData) : Prop := ∃ v, RelV v u ∧ ∀ H Z, Rp K H Z v d
section
variable {K : Frg}
theorem wr_int {i : Int} {t : Tok} : Wr K (.int i t) (.int i) := ⟨.int i, ⟨t, rfl⟩, fun _ _ => .int i⟩
end
theorem gw_of {h : Heap} {u : Value} {y : PyData} (inK : M.K.In h) (G : h.Ns mainGlobals M.mg) (a : PySem.W.nsIn M.K mainGlobals x = some (some u)) (w : Wr M.K u y) : Gw M x y := by
  obtain ⟨v, h1, h2⟩ := w
  exact ⟨u, v, PySem.W.mg_of inK G a, h1, h2⟩
end
end
section
variable [Wtp] [Tbl]
/-! ## reading a def on data -/
section
variable {α β : Type} (env : En) (st : Sto)
@[simp] theorem x_var (i : Nat) : eVar i env st = match env[i]? with
  | some (some w) => .ok w st
  | _ => .no := rfl
@[simp] theorem x_k (x : PyData) : eK x env st = .ok (.d x) st := rfl
@[simp] theorem x_op2 (f : PyData → PyData → Option PyData) (a b : En → Sto → Rs Wv) : eOp2 f a b env st = (a env st).bind fun v st1 => (b env st1).bind fun w st2 => look1 v st2 fun d => look1 w st2 fun e => ret1 (f d e) st2 := rfl
@[simp] theorem x_op1 (f : PyData → Option PyData) (a : En → Sto → Rs Wv) : eOp1 f a env st = (a env st).bind fun v st1 => look1 v st1 fun d => ret1 (f d) st1 := rfl
@[simp] theorem x_nil : aNil env st = .ok [] st := rfl
@[simp] theorem x_cons (a : En → Sto → Rs Wv) (b : En → Sto → Rs (List Wv)) : aCons a b env st = (a env st).bind fun v st1 => (b env st1).bind fun r st2 => .ok (v :: r) st2 := rfl
end
def srcW (w : Wv) (st1 : Sto) : Rs Sc := match w with
  | .d (.str x) => .ok ⟨x.cps.toList.map sgnD, []⟩ st1
  | .d (.dict es) => if kF es then .ok ⟨es.map (·.1), []⟩ st1 else .no
  | w => match seqW w st1 with
    | some sc => .ok sc st1
    | none => .no
def rg1W (ws : List Wv) (st1 : Sto) : Rs Sc := match ws with
  | [.d (.int j)] => if rgOk j then .ok ⟨rangeD 0 j.toNat, []⟩ st1 else .no
  | _ => .no
def rg2W (ws : List Wv) (st1 : Sto) : Rs Sc := match ws with
  | [.d (.int i), .d (.int j)] => if rgOk i && rgOk j then .ok ⟨rangeD i (j - i).toNat, []⟩ st1 else .no
  | _ => .no
def rgdW (ws : List Wv) (st1 : Sto) : Rs Sc := match ws with
  | [.d (.int i), .d (.int j), .d (.int (-1))] => if rgOk i && rgOk j then .ok ⟨downD i (i - j).toNat, []⟩ st1 else .no
  | _ => .no
def enumW (ws : List Wv) (st1 : Sto) : Rs Sc := match ws with
  | [u] => match seqW u st1 with
    | some a => .ok ⟨enumD a.xs, a.lv⟩ st1
    | _ => .no
  | _ => .no
def zip2W (ws : List Wv) (st1 : Sto) : Rs Sc := match ws with
  | [u, v] => match seqW u st1, seqW v st1 with
    | some a, some b => .ok ⟨List.zipWith pairD a.xs b.xs, a.lv ++ b.lv⟩ st1
    | _, _ => .no
  | _ => .no
def zip3W (ws : List Wv) (st1 : Sto) : Rs Sc := match ws with
  | [u, v, w] => match seqW u st1, seqW v st1, seqW w st1 with
    | some a, some b, some c => .ok ⟨zip3 a.xs b.xs c.xs, (a.lv ++ b.lv) ++ c.lv⟩ st1
    | _, _, _ => .no
  | _ => .no
def tupW (ws : List Wv) (st1 : Sto) : Rs Wv := match allD ws with
  | some ds => if ds.length ≤ 1000000 then .ok (.d (.tuple ds)) st1 else .no
  | none => .no
def lstW (ws : List Wv) (st1 : Sto) : Rs Wv := match allD ws with
  | some ds => if ds.length ≤ 1000000 then .ok (.d (.list ds)) st1 else .no
  | none => .no
def newW (ws : List Wv) (st1 : Sto) : Rs Wv := match allD ws with
  | some ds => if ds.length ≤ 1000000 then .ok (.r st1.length) (st1 ++ [.lst ds]) else .no
  | none => .no
def gixW (ys : List Str) (ws : List Wv) (st1 : Sto) : Rs Wv := match ws with
  | [.d (.str z)] => match idxS ys z with
    | some i => .ok (.d (.int (i : Nat))) st1
    | none => .no
  | _ => .no
@[simp] theorem x_opN (env : En) (st : Sto) (f : List PyData → Option PyData) (c : En → Sto → Rs (List Wv)) : eOpN f c env st = ((c env st).bind fun ws st1 => match looks ws st1 with | some ds => ret1 (f ds) st1 | none => .no) := rfl
@[simp] theorem x_tru (env : En) (st : Sto) (c : En → Sto → Rs Wv) : tTru c env st = ((c env st).bind tru) := rfl
@[simp] theorem x_and (env : En) (st : Sto) (a b : En → Sto → Rs Bool) : tAnd2 a b env st = ((a env st).bind fun x st1 => if x = true then b env st1 else .ok false st1) := rfl
@[simp] theorem x_or (env : En) (st : Sto) (a b : En → Sto → Rs Bool) : tOr2 a b env st = ((a env st).bind fun x st1 => if x = true then .ok true st1 else b env st1) := rfl
@[simp] theorem x_not (env : En) (st : Sto) (a : En → Sto → Rs Bool) : tNot1 a env st = ((a env st).bind fun x st1 => .ok (!x) st1) := rfl
@[simp] theorem x_eand (env : En) (st : Sto) (a b : En → Sto → Rs Wv) : eAnd2 a b env st = ((a env st).bind fun w st1 => (tru w st1).bind fun x st2 => if x = true then b env st2 else .ok w st2) := rfl
@[simp] theorem x_eor (env : En) (st : Sto) (a b : En → Sto → Rs Wv) : eOr2 a b env st = ((a env st).bind fun w st1 => (tru w st1).bind fun x st2 => if x = true then .ok w st2 else b env st2) := rfl
@[simp] theorem x_enot (env : En) (st : Sto) (a : En → Sto → Rs Wv) : eNot1 a env st = ((a env st).bind fun w st1 => (tru w st1).bind fun x st2 => .ok (.d (.bool (!x))) st2) := rfl
@[simp] theorem x_eif (env : En) (st : Sto) (t : En → Sto → Rs Bool) (a b : En → Sto → Rs Wv) : eIf t a b env st = ((t env st).bind fun x st1 => if x = true then a env st1 else b env st1) := rfl
@[simp] theorem x_bl (env : En) (st : Sto) (c : En → Sto → Rs Wv) : tBl c env st = ((c env st).bind fun w st1 => match w with | .d (.bool b) => .ok b st1 | _ => .no) := rfl
@[simp] theorem x_newd (env : En) (st : Sto)  : eNewD env st = (.ok (.r st.length) (st ++ [.dct []])) := rfl
def sixTW (env : En) (x w : Wv) (js : List Wv) (st3 : Sto) : SR := match x with
  | .d y => match allD js with
    | some ds => if ds.length ≤ 1000000 then (match setWT w (.tuple ds) y st3 with
      | some st4 => .nx env st4
      | none => .no) else .no
    | none => .no
  | _ => .no
@[simp] theorem x_sixt (env : En) (st : Sto) (co : En → Sto → Rs Wv) (cs : En → Sto → Rs (List Wv)) (ce : En → Sto → Rs Wv) : sIxT co cs ce env st = ((ce env st).sb fun x st1 => (co env st1).sb fun w st2 => (cs env st2).sb (sixTW env x w)) := rfl
@[simp] theorem x_newt (env : En) (st : Sto) : eNewT env st = (.ok (.r st.length) (st ++ [.dtt []])) := rfl
@[simp] theorem x_dic0 (env : En) (st : Sto)  : eDic0 env st = (.ok (.d (.dict [])) st) := rfl
@[simp] theorem x_slice (env : En) (st : Sto) (c : En → Sto → Rs Wv) (l h : En → Sto → Rs (Option Int)) : eSlice c l h env st = ((c env st).bind fun w st1 => (l env st1).bind fun i st2 => (h env st2).bind fun j st3 => look1 w st3 fun d => ret1 (slD i j d) st3) := rfl
@[simp] theorem x_pno (env : En) (st : Sto)  : pNo env st = (.ok none st) := rfl
@[simp] theorem x_psome (env : En) (st : Sto) (c : En → Sto → Rs Wv) : pSome c env st = ((c env st).bind fun w st1 => match w with | .d (.int i) => .ok (some i) st1 | _ => .no) := rfl
@[simp] theorem x_snil (env : En) (st : Sto)  : sNil env st = (.nx env st) := rfl
@[simp] theorem x_seq (env : En) (st : Sto) (a b : En → Sto → SR) : sSeq a b env st = ((a env st).seq b) := rfl
@[simp] theorem x_set (env : En) (st : Sto) (i : Nat) (c : En → Sto → Rs Wv) : sSet i c env st = ((c env st).sb fun w st1 => .nx (env.set i (some w)) st1) := rfl
@[simp] theorem x_ret (env : En) (st : Sto) (c : En → Sto → Rs Wv) : sRet c env st = ((c env st).sb fun w st1 => .rt (.w w) st1) := rfl
@[simp] theorem x_retf (env : En) (st : Sto) (c : En → Sto → Rs Wv) : sRetF c env st = ((c env st).sb fun w st1 => .rt (.f w) st1) := rfl
@[simp] theorem x_rett (env : En) (st : Sto) (c : En → Sto → Rs (List Wv)) : sRetT c env st = ((c env st).sb fun ws st1 => if ws.length ≤ 1000 then .rt (.ft ws) st1 else .no) := rfl
@[simp] theorem x_retn (env : En) (st : Sto)  : sRetN env st = (.rt (.w (.d .none)) st) := rfl
@[simp] theorem x_exp (env : En) (st : Sto) (c : En → Sto → Rs Wv) : sExp c env st = ((c env st).sb fun _ st1 => .nx env st1) := rfl
@[simp] theorem x_if (env : En) (st : Sto) (t : En → Sto → Rs Bool) (a b : En → Sto → SR) : sIf t a b env st = ((t env st).sb fun x st1 => if x = true then a env st1 else b env st1) := rfl
@[simp] theorem x_sno (env : En) (st : Sto)  : sNo env st = (.no) := rfl
@[simp] theorem x_asg (env : En) (st : Sto) (g : Wv → En → Option En) (c : En → Sto → Rs Wv) : sAsg g c env st = ((c env st).sb fun w st1 => match g w env with | some env' => .nx env' st1 | none => .no) := rfl
@[simp] theorem x_par2 (env : En) (st : Sto) (i j : Nat) (c : En → Sto → Rs (List Wv)) : sPar2 i j c env st = ((c env st).sb fun ws st1 => match ws with | [v, w] => .nx ((env.set i (some v)).set j (some w)) st1 | _ => .no) := rfl
@[simp] theorem x_par3 (env : En) (st : Sto) (i j l : Nat) (c : En → Sto → Rs (List Wv)) : sPar3 i j l c env st = ((c env st).sb fun ws st1 => match ws with | [u, v, w] => .nx (((env.set i (some u)).set j (some v)).set l (some w)) st1 | _ => .no) := rfl
@[simp] theorem x_for (env : En) (st : Sto) (ci : En → Sto → Rs Sc) (g : Wv → En → Option En) (b : En → Sto → SR) : sFor ci g b env st = ((ci env st).sb fun sc st1 => forL g b sc.lv sc.xs env st1) := rfl
@[simp] theorem x_clc (env : En) (st : Sto) (ci : En → Sto → Rs Sc) (g : Wv → En → Option En) (t : En → Sto → Rs Bool) (c : En → Sto → Rs Wv) (vs : List Nat) : cLc ci g t c vs env st = ((ci env st).bind fun sc st1 => if sc.xs.length ≤ 1000000 then lcL g t c sc.lv (wipeE env vs) sc.xs [] st1 else .no) := rfl
@[simp] theorem x_lc (env : En) (st : Sto) (ci : En → Sto → Rs Sc) (g : Wv → En → Option En) (t : En → Sto → Rs Bool) (c : En → Sto → Rs Wv) (vs : List Nat) : eLc ci g t c vs env st = ((cLc ci g t c vs env st).bind fun ys st2 => .ok (.d (.list ys)) st2) := rfl
@[simp] theorem x_lcn (env : En) (st : Sto) (ci : En → Sto → Rs Sc) (g : Wv → En → Option En) (t : En → Sto → Rs Bool) (c : En → Sto → Rs Wv) (vs : List Nat) : eLcN ci g t c vs env st = ((cLc ci g t c vs env st).bind fun ys st2 => .ok (.r st2.length) (st2 ++ [.lst ys])) := rfl
@[simp] theorem x_yes (env : En) (st : Sto)  : tYs env st = (.ok true st) := rfl
@[simp] theorem x_meth (env : En) (st : Sto) (g : Wv → List Wv → Sto → Rs Wv) (co : En → Sto → Rs Wv) (cs : En → Sto → Rs (List Wv)) : eM g co cs env st = ((co env st).bind fun w st1 => if isLst st1 w = true then (cs env st1).bind fun ws st2 => g w ws st2 else .no) := rfl
@[simp] theorem x_call (env : En) (st : Sto) (mf : List Wv → Sto → Rs Wv) (cs : En → Sto → Rs (List Wv)) : eCall mf cs env st = ((cs env st).bind mf) := rfl
@[simp] theorem x_seqs (env : En) (st : Sto) (c : En → Sto → Rs Wv) : cSeq c env st = ((c env st).bind srcW) := rfl
@[simp] theorem x_rg1 (env : En) (st : Sto) (c : En → Sto → Rs (List Wv)) : cRg1 c env st = ((c env st).bind rg1W) := rfl
@[simp] theorem x_rg2 (env : En) (st : Sto) (c : En → Sto → Rs (List Wv)) : cRg2 c env st = ((c env st).bind rg2W) := rfl
@[simp] theorem x_rgd (env : En) (st : Sto) (c : En → Sto → Rs (List Wv)) : cRgD c env st = ((c env st).bind rgdW) := rfl
@[simp] theorem x_enum (env : En) (st : Sto) (c : En → Sto → Rs (List Wv)) : cEnum c env st = ((c env st).bind enumW) := rfl
@[simp] theorem x_zip2 (env : En) (st : Sto) (c : En → Sto → Rs (List Wv)) : cZip2 c env st = ((c env st).bind zip2W) := rfl
@[simp] theorem x_zip3 (env : En) (st : Sto) (c : En → Sto → Rs (List Wv)) : cZip3 c env st = ((c env st).bind zip3W) := rfl
@[simp] theorem x_tup (env : En) (st : Sto) (c : En → Sto → Rs (List Wv)) : eTup c env st = ((c env st).bind tupW) := rfl
@[simp] theorem x_lst (env : En) (st : Sto) (c : En → Sto → Rs (List Wv)) : eLst c env st = ((c env st).bind lstW) := rfl
@[simp] theorem x_newl (env : En) (st : Sto) (c : En → Sto → Rs (List Wv)) : eNewL c env st = ((c env st).bind newW) := rfl
@[simp] theorem x_gix (env : En) (st : Sto) (ys : List Str) (c : En → Sto → Rs (List Wv)) : eGix ys c env st = ((c env st).bind (gixW ys)) := rfl
def chW (o : Option PyData) (k : Rs Wv) (st : Sto) : Rs Wv := match o with
  | some (.bool true) => k
  | some (.bool false) => .ok (.d (.bool false)) st
  | _ => .no
@[simp] theorem chW_b (b : Bool) (k : Rs Wv) (st : Sto) : chW (some (.bool b)) k st = if b = true then k else .ok (.d (.bool false)) st := by cases b <;> rfl
@[simp] theorem x_chain (env : En) (st : Sto) (f g : PyData → PyData → Option PyData) (a b c : En → Sto → Rs Wv) : eChain f g a b c env st = ((a env st).bind fun v st1 => (b env st1).bind fun w st2 => look1 v st2 fun d => look1 w st2 fun e => chW (f d e) ((c env st2).bind fun z st3 => look1 w st3 fun e' => look1 z st3 fun y => ret1 (g e' y) st3) st2) := rfl
@[simp] theorem if_a (p : Prop) [Decidable p] (x : Bool) (st : Sto) : (if p then Rs.ok (Wv.d (.bool x)) st else Rs.ok (Wv.d (.bool false)) st) = Rs.ok (Wv.d (.bool (decide p && x))) st := by by_cases h : p <;> simp [h]
@[simp] theorem if_o (p : Prop) [Decidable p] (x : Bool) (st : Sto) : (if p then Rs.ok (Wv.d (.bool true)) st else Rs.ok (Wv.d (.bool x)) st) = Rs.ok (Wv.d (.bool (decide p || x))) st := by by_cases h : p <;> simp [h]
@[simp] theorem if_c (p : Prop) [Decidable p] (x : Bool) (st : Sto) : (if p then Rs.ok (Wv.d (.bool false)) st else Rs.ok (Wv.d (.bool x)) st) = Rs.ok (Wv.d (.bool (!decide p && x))) st := by by_cases h : p <;> simp [h]
@[simp] theorem if_d (p : Prop) [Decidable p] (x : Bool) (st : Sto) : (if p then Rs.ok (Wv.d (.bool x)) st else Rs.ok (Wv.d (.bool true)) st) = Rs.ok (Wv.d (.bool (!decide p || x))) st := by by_cases h : p <;> simp [h]
@[simp] theorem if_ta (p : Prop) [Decidable p] (x : Bool) (st : Sto) : (if p then Rs.ok x st else Rs.ok false st) = Rs.ok (decide p && x) st := by by_cases h : p <;> simp [h]
@[simp] theorem if_to (p : Prop) [Decidable p] (x : Bool) (st : Sto) : (if p then Rs.ok true st else Rs.ok x st) = Rs.ok (decide p || x) st := by by_cases h : p <;> simp [h]
@[simp] theorem if_tc (p : Prop) [Decidable p] (x : Bool) (st : Sto) : (if p then Rs.ok false st else Rs.ok x st) = Rs.ok (!decide p && x) st := by by_cases h : p <;> simp [h]
@[simp] theorem if_td (p : Prop) [Decidable p] (x : Bool) (st : Sto) : (if p then Rs.ok x st else Rs.ok true st) = Rs.ok (!decide p || x) st := by by_cases h : p <;> simp [h]
@[simp] theorem if_a2 (b x : Bool) (st : Sto) : (if b = true then Rs.ok (Wv.d (.bool x)) st else Rs.ok (Wv.d (.bool b)) st) = Rs.ok (Wv.d (.bool (b && x))) st := by cases b <;> rfl
@[simp] theorem if_o2 (b x : Bool) (st : Sto) : (if b = true then Rs.ok (Wv.d (.bool b)) st else Rs.ok (Wv.d (.bool x)) st) = Rs.ok (Wv.d (.bool (b || x))) st := by cases b <;> rfl
noncomputable def sixW (env : En) (w j x : Wv) (st3 : Sto) : SR := match x with
  | .d y => match setW w j y st3 with
    | some st4 => .nx env st4
    | none => .no
  | _ => .no
@[simp] theorem x_six (env : En) (st : Sto) (co ci ce : En → Sto → Rs Wv) : sIx co ci ce env st = (ce env st).sb fun x st1 => (co env st1).sb fun w st2 => (ci env st2).sb fun j st3 => sixW env w j x st3 := rfl
@[simp] theorem x_gN (i : Nat) (w : Wv) (env : En) : gN i w env = some (env.set i (some w)) := rfl
@[simp] theorem x_gTp (g : List PyData → En → Option En) (xs : List PyData) (env : En) : gTp g (.d (.tuple xs)) env = g xs env := rfl
@[simp] theorem x_gNl (env : En) : gNl [] env = some env := rfl
@[simp] theorem x_gCn (g : Wv → En → Option En) (h : List PyData → En → Option En) (x : PyData) (r : List PyData) (env : En) : gCn g h (x :: r) env = (g (.d x) env).bind (h r) := rfl
@[simp] theorem x_mk (np N : Nat) (b : En → Sto → SR) (ws : List Wv) (st : Sto) : mkF np N b ws st = if ws.length = np then endS st.length (b (ws.map some ++ List.replicate (N - ws.length) none) st) else .no := rfl
@[simp] theorem x_end_nx (n : Nat) (env : En) (st : Sto) : endS n (.nx env st) = .ok (.d .none) (st.take n) := rfl
@[simp] theorem x_end_d (n : Nat) (x : PyData) (st : Sto) : endS n (.rt (.w (.d x)) st) = .ok (.d x) (st.take n) := rfl
@[simp] theorem x_end_fd (n : Nat) (x : PyData) (st : Sto) : endS n (.rt (.f (Wv.d x)) st) = .ok (.d x) (st.take n) := rfl
theorem x_end_r {n i : Nat} {st : Sto} {o : Ob} (hi : n ≤ i) (h : st[i]? = some o) : endS n (.rt (.w (.r i)) st) = .ok (.r n) (st.take n ++ [o]) := by
  show (if i < n then Rs.ok (Wv.r i) (st.take n) else match st[i]? with | some o => Rs.ok (Wv.r n) (st.take n ++ [o]) | none => .no) = _
  rw [if_neg (by omega), h]
/-! ## the operations on data -/
@[simp] theorem o_add_i (i j : Int) : addD (.int i) (.int j) = some (.int (i + j)) := rfl
@[simp] theorem o_add_t (xs ys : List PyData) : addD (.tuple xs) (.tuple ys) = if xs.length + ys.length ≤ 1000000 then some (.tuple (xs ++ ys)) else none := rfl
@[simp] theorem o_add_l (xs ys : List PyData) : addD (.list xs) (.list ys) = if xs.length + ys.length ≤ 1000000 then some (.list (xs ++ ys)) else none := rfl
@[simp] theorem o_sub_i (i j : Int) : subD (.int i) (.int j) = some (.int (i - j)) := rfl
@[simp] theorem o_mul_i (i j : Int) : mulD (.int i) (.int j) = if bigOk i j = true then some (.int (i * j)) else none := rfl
@[simp] theorem o_mul_t (xs : List PyData) (k : Int) : mulD (.tuple xs) (.int k) = if k = 1 then some (.tuple xs) else if 2 ≤ k ∧ k ≤ 1000 ∧ xs.length ≤ 1000 ∧ xs ≠ [] then some (.tuple (List.replicate k.toNat xs).flatten) else if xs = [] ∧ 0 ≤ k ∧ k ≤ 1000 then some (.tuple []) else none := rfl
@[simp] theorem o_mul_l (xs : List PyData) (k : Int) : mulD (.list xs) (.int k) = if 0 ≤ k ∧ k ≤ 1000 ∧ xs.length ≤ 1000 then some (.list (List.replicate k.toNat xs).flatten) else none := rfl
@[simp] theorem o_div_i (i j : Int) : divD (.int i) (.int j) = if 0 < j ∧ j < 1073741824 then some (.int (i / j)) else if 0 < j ∧ j < 1606938044258990275541962092341162602522202993782792835301376 then some (.int (i / j)) else none := rfl
@[simp] theorem o_mod_i (i j : Int) : modD (.int i) (.int j) = if 0 < j then some (.int (i % j)) else none := rfl
@[simp] theorem o_pow_i (i j : Int) : powD (.int i) (.int j) = if 0 ≤ j ∧ j ≤ 1000 ∧ i.natAbs < 18446744073709551616 then some (.int (i ^ j.toNat)) else none := rfl
@[simp] theorem o_neg_i (i : Int) : negD (.int i) = some (.int (-i)) := rfl
@[simp] theorem o_eq_i (i j : Int) : eqD (.int i) (.int j) = some (.bool (i == j)) := rfl
@[simp] theorem o_ne_i (i j : Int) : neD (.int i) (.int j) = some (.bool (!(i == j))) := rfl
@[simp] theorem o_eq_b (i j : Bool) : eqD (.bool i) (.bool j) = some (.bool (i == j)) := rfl
@[simp] theorem o_ne_b (i j : Bool) : neD (.bool i) (.bool j) = some (.bool (!(i == j))) := rfl
@[simp] theorem o_eq_s (i j : Str) : eqD (.str i) (.str j) = some (.bool (i == j)) := rfl
@[simp] theorem o_ne_s (i j : Str) : neD (.str i) (.str j) = some (.bool (!(i == j))) := rfl
@[simp] theorem o_lt_i (i j : Int) : ltD (.int i) (.int j) = some (.bool (decide (i < j))) := rfl
@[simp] theorem o_gt_i (i j : Int) : gtD (.int i) (.int j) = some (.bool (decide (j < i))) := rfl
@[simp] theorem o_le_i (i j : Int) : leD (.int i) (.int j) = some (.bool (decide (i ≤ j))) := rfl
@[simp] theorem o_ge_i (i j : Int) : geD (.int i) (.int j) = some (.bool (decide (j ≤ i))) := rfl
@[simp] theorem o_is_n (a : PyData) : isND a .none = some (.bool (isNone a)) := rfl
@[simp] theorem o_nt_n (a : PyData) : ntND a .none = some (.bool (!isNone a)) := rfl
@[simp] theorem o_ix_t (xs : List PyData) (i : Int) : ixD (.tuple xs) (.int i) = atD xs i := rfl
@[simp] theorem o_ix_l (xs : List PyData) (i : Int) : ixD (.list xs) (.int i) = atD xs i := rfl
@[simp] theorem o_sl_t (xs : List PyData) (i j : Option Int) : slD i j (.tuple xs) = some (.tuple (cutD xs i j)) := rfl
@[simp] theorem o_sl_l (xs : List PyData) (i j : Option Int) : slD i j (.list xs) = some (.list (cutD xs i j)) := rfl
@[simp] theorem o_len_t (xs : List PyData) : lenF [.tuple xs] = some (.int xs.length) := rfl
@[simp] theorem o_len_l (xs : List PyData) : lenF [.list xs] = some (.int xs.length) := rfl
@[simp] theorem o_tup_t (xs : List PyData) : tupF [.tuple xs] = some (.tuple xs) := rfl
@[simp] theorem o_tup_l (xs : List PyData) : tupF [.list xs] = some (.tuple xs) := rfl
@[simp] theorem o_int_i (i : Int) : intF [.int i] = some (.int i) := rfl
@[simp] theorem o_int_b (b : Bool) : intF [.bool b] = some (.int (if b then 1 else 0)) := rfl
@[simp] theorem o_max2 (i j : Int) : max2F [.int i, .int j] = some (.int (if j > i then j else i)) := rfl
@[simp] theorem o_min2 (i j : Int) : min2F [.int i, .int j] = some (.int (if j < i then j else i)) := rfl
@[simp] theorem o_all (bs : List Bool) : allF [.list (bs.map .bool)] = some (.bool (bs.all id)) := by show (boolsOf _).map _ = _; rw [boolsOf_map]; rfl
@[simp] theorem o_sum_l (ns : List Int) : sumF [.list (ns.map .int)] = some (.int ns.sum) := by show (intsOf _).map _ = _; rw [intsOf_map]; rfl
@[simp] theorem o_sum_t (ns : List Int) : sumF [.tuple (ns.map .int)] = some (.int ns.sum) := by show (intsOf _).map _ = _; rw [intsOf_map]; rfl
@[simp] theorem tru_i (i : Int) (st : Sto) : tru (.d (.int i)) st = .ok (!(i == 0)) st := rfl
theorem atD_nat {α : Type} {xs : List α} {i : Nat} : atD xs (i : Nat) = xs[i]? := by
  unfold atD
  unfold ixN
  rw [if_pos (by omega)]
  split
  · simp
  · simp; omega
@[simp] theorem atD_0 {α : Type} (x : α) (xs : List α) : atD (x :: xs) 0 = some x := atD_nat (i := 0)
@[simp] theorem atD_1 {α : Type} (x y : α) (xs : List α) : atD (x :: y :: xs) 1 = some y := atD_nat (i := 1)
@[simp] theorem atD_2 {α : Type} (x y z : α) (xs : List α) : atD (x :: y :: z :: xs) 2 = some z := atD_nat (i := 2)
@[simp] theorem atD_3 {α : Type} (x y z w : α) (xs : List α) : atD (x :: y :: z :: w :: xs) 3 = some w := atD_nat (i := 3)
@[simp] theorem isa_int_none  : isaD "int" .none = some (.bool false) := rfl
@[simp] theorem isa_int_bool (b : Bool) : isaD "int" (.bool b) = some (.bool true) := rfl
@[simp] theorem isa_int_int (i : Int) : isaD "int" (.int i) = some (.bool true) := rfl
@[simp] theorem isa_int_str (x : Str) : isaD "int" (.str x) = some (.bool false) := rfl
@[simp] theorem isa_int_list (xs : List PyData) : isaD "int" (.list xs) = some (.bool false) := rfl
@[simp] theorem isa_int_tuple (xs : List PyData) : isaD "int" (.tuple xs) = some (.bool false) := rfl
@[simp] theorem isa_int_dict (es : List (PyData × PyData)) : isaD "int" (.dict es) = some (.bool false) := rfl
@[simp] theorem isa_bool_none  : isaD "bool" .none = some (.bool false) := rfl
@[simp] theorem isa_bool_bool (b : Bool) : isaD "bool" (.bool b) = some (.bool true) := rfl
@[simp] theorem isa_bool_int (i : Int) : isaD "bool" (.int i) = some (.bool false) := rfl
@[simp] theorem isa_bool_str (x : Str) : isaD "bool" (.str x) = some (.bool false) := rfl
@[simp] theorem isa_bool_list (xs : List PyData) : isaD "bool" (.list xs) = some (.bool false) := rfl
@[simp] theorem isa_bool_tuple (xs : List PyData) : isaD "bool" (.tuple xs) = some (.bool false) := rfl
@[simp] theorem isa_bool_dict (es : List (PyData × PyData)) : isaD "bool" (.dict es) = some (.bool false) := rfl
@[simp] theorem isa_str_none  : isaD "str" .none = some (.bool false) := rfl
@[simp] theorem isa_str_bool (b : Bool) : isaD "str" (.bool b) = some (.bool false) := rfl
@[simp] theorem isa_str_int (i : Int) : isaD "str" (.int i) = some (.bool false) := rfl
@[simp] theorem isa_str_str (x : Str) : isaD "str" (.str x) = some (.bool true) := rfl
@[simp] theorem isa_str_list (xs : List PyData) : isaD "str" (.list xs) = some (.bool false) := rfl
@[simp] theorem isa_str_tuple (xs : List PyData) : isaD "str" (.tuple xs) = some (.bool false) := rfl
@[simp] theorem isa_str_dict (es : List (PyData × PyData)) : isaD "str" (.dict es) = some (.bool false) := rfl
@[simp] theorem isa_tuple_none  : isaD "tuple" .none = some (.bool false) := rfl
@[simp] theorem isa_tuple_bool (b : Bool) : isaD "tuple" (.bool b) = some (.bool false) := rfl
@[simp] theorem isa_tuple_int (i : Int) : isaD "tuple" (.int i) = some (.bool false) := rfl
@[simp] theorem isa_tuple_str (x : Str) : isaD "tuple" (.str x) = some (.bool false) := rfl
@[simp] theorem isa_tuple_list (xs : List PyData) : isaD "tuple" (.list xs) = some (.bool false) := rfl
@[simp] theorem isa_tuple_tuple (xs : List PyData) : isaD "tuple" (.tuple xs) = some (.bool true) := rfl
@[simp] theorem isa_tuple_dict (es : List (PyData × PyData)) : isaD "tuple" (.dict es) = some (.bool false) := rfl
@[simp] theorem isa_list_none  : isaD "list" .none = some (.bool false) := rfl
@[simp] theorem isa_list_bool (b : Bool) : isaD "list" (.bool b) = some (.bool false) := rfl
@[simp] theorem isa_list_int (i : Int) : isaD "list" (.int i) = some (.bool false) := rfl
@[simp] theorem isa_list_str (x : Str) : isaD "list" (.str x) = some (.bool false) := rfl
@[simp] theorem isa_list_list (xs : List PyData) : isaD "list" (.list xs) = some (.bool true) := rfl
@[simp] theorem isa_list_tuple (xs : List PyData) : isaD "list" (.tuple xs) = some (.bool false) := rfl
@[simp] theorem isa_list_dict (es : List (PyData × PyData)) : isaD "list" (.dict es) = some (.bool false) := rfl
@[simp] theorem isa_dict_none  : isaD "dict" .none = some (.bool false) := rfl
@[simp] theorem isa_dict_bool (b : Bool) : isaD "dict" (.bool b) = some (.bool false) := rfl
@[simp] theorem isa_dict_int (i : Int) : isaD "dict" (.int i) = some (.bool false) := rfl
@[simp] theorem isa_dict_str (x : Str) : isaD "dict" (.str x) = some (.bool false) := rfl
@[simp] theorem isa_dict_list (xs : List PyData) : isaD "dict" (.list xs) = some (.bool false) := rfl
@[simp] theorem isa_dict_tuple (xs : List PyData) : isaD "dict" (.tuple xs) = some (.bool false) := rfl
@[simp] theorem isa_dict_dict (es : List (PyData × PyData)) : isaD "dict" (.dict es) = some (.bool true) := rfl
@[simp] theorem isN_n : isNone .none = true := rfl
@[simp] theorem isN_bool (b : Bool) : isNone (.bool b) = false := rfl
@[simp] theorem isN_int (i : Int) : isNone (.int i) = false := rfl
@[simp] theorem isN_str (x : Str) : isNone (.str x) = false := rfl
@[simp] theorem isN_list (xs : List PyData) : isNone (.list xs) = false := rfl
@[simp] theorem isN_tuple (xs : List PyData) : isNone (.tuple xs) = false := rfl
@[simp] theorem isN_dict (es : List (PyData × PyData)) : isNone (.dict es) = false := rfl
end
section
variable [Wtp] [Tbl]
/-! ## the store -/
@[simp] theorem end_new (st : Sto) (o : Ob) : endS st.length (.rt (.w (.r st.length)) (st ++ [o])) = .ok (.r st.length) (st ++ [o]) := by
  rw [x_end_r (o := o) (Nat.le_refl _) (by simp)]
  simp
@[simp] theorem take_set {α : Type} (xs : List α) (p : Nat) (x : α) : (xs.set p x).take xs.length = xs.set p x := List.take_of_length_le (by simp)
theorem look_l {i : Nat} {st : Sto} {xs : List PyData} (h : st[i]? = some (.lst xs)) : look st (.r i) = some (.list xs) := by
  show (match st[i]? with
    | some (.lst xs) => some (PyData.list xs)
    | some (.dct kvs) => some (.dict kvs)
    | some (.dtt kvs) => some (.dict kvs)
    | some (.lkd kvs) => some (.dict kvs)
    | some (.lkl xs) => some (.list xs)
    | some (.ins _ _) => none
    | none => none) = _
  rw [h]
theorem look1_l {i : Nat} {st : Sto} {xs : List PyData} (h : st[i]? = some (.lst xs)) (f : PyData → Rs Wv) : look1 (.r i) st f = f (.list xs) := by
  unfold look1
  rw [look_l h]
theorem isLst_l {i : Nat} {st : Sto} {xs : List PyData} (h : st[i]? = some (.lst xs)) : isLst st (.r i) = true := by
  unfold isLst
  simp [h]
theorem appW_l {i : Nat} {st : Sto} {xs : List PyData} (h : st[i]? = some (.lst xs)) (hl : xs.length < 1000000) (y : PyData) : appW (.r i) [.d y] st = .ok (.d .none) (st.set i (.lst (xs ++ [y]))) := by
  unfold appW
  simp [h, hl]
theorem setW_l {i : Nat} {st : Sto} {xs : List PyData} (h : st[i]? = some (.lst xs)) {t : Int} {q : Nat} (hq : ixN xs.length t = some q) (y : PyData) : setW (.r i) (.d (.int t)) y st = some (st.set i (.lst (xs.set q y))) := by
  unfold setW
  simp [h, hq]
theorem ixN_nat {n i : Nat} (h : i < n) : ixN n (i : Int) = some i := by
  unfold ixN
  rw [if_pos (by omega), if_pos (by omega)]
  simp
/-! ## pens: lists of three ints -/
def Pen (p : Nat) (st : Sto) : Prop := ∃ a b c : Int, st[p]? = some (.lst [.int a, .int b, .int c])
/-- only the pen at p is turned -/
structure Pn (p : Nat) (st st' : Sto) : Prop where
  len : st'.length = st.length
  pen : Pen p st'
  sm : ∀ i, i ≠ p → st'[i]? = st[i]?
/-- below n only the pen at p is turned -/
structure Px (p n : Nat) (st st' : Sto) : Prop where
  le : n ≤ st'.length
  pen : Pen p st'
  sm : ∀ i, i < n → i ≠ p → st'[i]? = st[i]?
section
variable {p n : Nat} {st st1 st2 : Sto}
theorem Pen.lt (h : Pen p st) : p < st.length := by
  obtain ⟨_, _, _, e⟩ := h
  exact (List.getElem?_eq_some_iff.mp e).1
theorem Pn.refl (h : Pen p st) : Pn p st st := ⟨rfl, h, fun _ _ => rfl⟩
theorem Pn.trans (a : Pn p st st1) (b : Pn p st1 st2) : Pn p st st2 := ⟨b.len.trans a.len, b.pen, fun i hi => (b.sm i hi).trans (a.sm i hi)⟩
theorem Pn.set (h : Pen p st) (a b c : Int) : Pn p st (st.set p (.lst [.int a, .int b, .int c])) :=
  ⟨by simp, ⟨a, b, c, List.getElem?_set_self h.lt⟩, fun i hi => List.getElem?_set_ne (Ne.symm hi)⟩
theorem Pen.app (h : Pen p st) (l : Sto) : Pen p (st ++ l) := by
  obtain ⟨a, b, c, e⟩ := id h
  exact ⟨a, b, c, by rw [List.getElem?_append_left h.lt]; exact e⟩
theorem Pen.put (h : Pen p st) {i : Nat} (hi : i ≠ p) (o : Ob) : Pen p (st.set i o) := by
  obtain ⟨a, b, c, e⟩ := id h
  exact ⟨a, b, c, by rw [List.getElem?_set_ne hi]; exact e⟩
theorem Px.refl (h : Pen p st) : Px p st.length st st := ⟨Nat.le_refl _, h, fun _ _ _ => rfl⟩
theorem Px.pn (a : Px p n st st1) (b : Pn p st1 st2) : Px p n st st2 := ⟨by rw [b.len]; exact a.le, b.pen, fun i hi hp => (b.sm i hp).trans (a.sm i hi hp)⟩
theorem Px.app (a : Px p n st st1) (l : Sto) : Px p n st (st1 ++ l) := ⟨by rw [List.length_append]; have := a.le; omega, a.pen.app l, fun i hi hp => by rw [List.getElem?_append_left (Nat.lt_of_lt_of_le hi a.le)]; exact a.sm i hi hp⟩
theorem Px.put (a : Px p n st st1) {i : Nat} (hi : n ≤ i) (hp : p < n) (o : Ob) : Px p n st (st1.set i o) :=
  ⟨by rw [List.length_set]; exact a.le, a.pen.put (by omega) o, fun j hj hq => by rw [List.getElem?_set_ne (by omega)]; exact a.sm j hj hq⟩
theorem Px.back (a : Px p st.length st st1) (hp : p < st.length) : Pn p st (st1.take st.length) := by
  have hl : (st1.take st.length).length = st.length := by rw [List.length_take]; have := a.le; omega
  refine ⟨hl, ?_, fun i hi => ?_⟩
  · obtain ⟨x, y, z, e⟩ := a.pen
    exact ⟨x, y, z, by rw [List.getElem?_take_of_lt hp]; exact e⟩
  · by_cases q : i < st.length
    · rw [List.getElem?_take_of_lt q]; exact a.sm i q hi
    · rw [List.getElem?_eq_none (by omega), List.getElem?_eq_none (by omega)]
end
theorem rg_ok {i : Int} (h1 : -1000000 ≤ i) (h2 : i ≤ 1000000) : rgOk i = true := by
  unfold rgOk
  rw [decide_eq_true (by omega), decide_eq_true (by omega)]
  rfl
theorem rg1_ok {i : Int} (st : Sto) (h1 : -1000000 ≤ i) (h2 : i ≤ 1000000) : rg1W [.d (.int i)] st = .ok ⟨rangeD 0 i.toNat, []⟩ st := by
  unfold rg1W
  simp [rg_ok h1 h2]
theorem rangeD_len (lo : Int) (n : Nat) : (rangeD lo n).length = n := by simp [rangeD]
theorem rangeD_get {lo : Int} {n i : Nat} {x : PyData} (h : (rangeD lo n)[i]? = some x) : i < n ∧ x = .int (lo + (i : Nat)) := by
  have hi : i < n := by have := (List.getElem?_eq_some_iff.mp h).1; rwa [rangeD_len] at this
  refine ⟨hi, ?_⟩
  unfold rangeD at h
  simp [hi] at h
  exact h.symm
theorem atD_mem {α : Type} {xs : List α} {i : Int} (h1 : 0 ≤ i) (h2 : i < xs.length) : ∃ x, x ∈ xs ∧ atD xs i = some x := by
  obtain ⟨k, rfl⟩ := Int.eq_ofNat_of_zero_le h1
  have hk : k < xs.length := by simpa using h2
  exact ⟨xs[k], List.getElem_mem hk, by rw [atD_nat, List.getElem?_eq_getElem hk]⟩
/-! ## loops on data -/
@[simp] theorem forL_nil (g : Wv → En → Option En) (b : En → Sto → SR) (env : En) (st : Sto) : forL g b [] [] env st = .nx env st := by simp [forL]
@[simp] theorem forL_cons (g : Wv → En → Option En) (b : En → Sto → SR) (x : PyData) (r : List PyData) (env : En) (st : Sto) : forL g b [] (x :: r) env st = match g (.d x) env with
    | some env1 => (b env1 st).seq (forL g b [] r)
    | none => .no := by cases h : g (.d x) env <;> simp [forL, h]
/-- every turn goes on -/
theorem forL_go {g : Wv → En → Option En} {b : En → Sto → SR} (I : En → Sto → Prop) : ∀ (xs : List PyData), (∀ x ∈ xs, ∀ env st, I env st → ∃ env1 env2 st2, g (.d x) env = some env1 ∧ b env1 st = .nx env2 st2 ∧ I env2 st2) →
    ∀ env st, I env st → ∃ env2 st2, forL g b [] xs env st = .nx env2 st2 ∧ I env2 st2
  | [], _, env, st, h => ⟨env, st, by simp, h⟩
  | x :: xs, q, env, st, h => by
    obtain ⟨env1, env2, st2, e1, e2, h2⟩ := q x (by simp) env st h
    obtain ⟨env3, st3, e3, h3⟩ := forL_go I xs (fun y hy => q y (by simp [hy])) env2 st2 h2
    exact ⟨env3, st3, by rw [forL_cons, e1]; simp [e2, e3], h3⟩
/-- every turn goes on, by its number -/
theorem forL_goI {g : Wv → En → Option En} {b : En → Sto → SR} (I : Nat → En → Sto → Prop) : ∀ (xs : List PyData) (k : Nat), (∀ i x, xs[i]? = some x → ∀ env st, I (k + i) env st → ∃ env1 env2 st2, g (.d x) env = some env1 ∧ b env1 st = .nx env2 st2 ∧ I (k + i + 1) env2 st2) →
    ∀ env st, I k env st → ∃ env2 st2, forL g b [] xs env st = .nx env2 st2 ∧ I (k + xs.length) env2 st2
  | [], k, _, env, st, h => ⟨env, st, by simp, h⟩
  | x :: xs, k, q, env, st, h => by
    obtain ⟨env1, env2, st2, e1, e2, h2⟩ := q 0 x rfl env st h
    obtain ⟨env3, st3, e3, h3⟩ := forL_goI I xs (k + 1) (fun i y hy env st hI => by
      have := q (i + 1) y (by simpa using hy) env st (by rw [show k + (i + 1) = k + 1 + i by omega]; exact hI)
      rw [show k + (i + 1) + 1 = k + 1 + i + 1 by omega] at this
      exact this) env2 st2 h2
    exact ⟨env3, st3, by rw [forL_cons, e1]; simp [e2, e3], by rw [List.length_cons, show k + (xs.length + 1) = k + 1 + xs.length by omega]; exact h3⟩
/-- a comprehension of a pure part -/
theorem lcL_map {g : Wv → En → Option En} {c : En → Sto → Rs Wv} {env : En} {st : Sto} {f : PyData → PyData} : ∀ (xs acc : List PyData), (∀ x ∈ xs, ∃ env1, g (.d x) env = some env1 ∧ c env1 st = .ok (.d (f x)) st) → lcL g tYs c [] env xs acc st = .ok (acc ++ xs.map f) st
  | [], acc, _ => by simp [lcL]
  | x :: xs, acc, q => by
    obtain ⟨env1, e1, e2⟩ := q x (by simp)
    have ih := lcL_map (f := f) (g := g) (c := c) (env := env) (st := st) xs (acc ++ [f x]) fun y hy => q y (by simp [hy])
    simp [lcL, e1, e2, ih]
theorem o_all' {α : Type} (xs : List α) (p : α → Bool) : allF [.list (xs.map fun x => .bool (p x))] = some (.bool (xs.all p)) := by
  have := o_all (xs.map p)
  rw [List.map_map] at this
  rw [show (fun x => PyData.bool (p x)) = PyData.bool ∘ p from rfl, this, List.all_map]
  rfl
theorem cutD_drop {α : Type} (xs : List α) (i : Nat) : cutD xs (some (i : Int)) none = xs.drop i := by
  unfold cutD
  rw [HT.sIx_nat, HT.sIx_none]
  rcases Nat.le_total i xs.length with h | h
  · rw [Nat.min_eq_left h, List.take_of_length_le (by simp)]
  · rw [Nat.min_eq_right h, List.drop_eq_nil_of_le h, List.drop_eq_nil_of_le (Nat.le_refl _)]; simp
theorem cutD_len {α : Type} {xs : List α} {lo hi : Option Int} : (cutD xs lo hi).length ≤ xs.length := by
  unfold cutD
  rw [List.length_take, List.length_drop]
  omega
/-! ## what can be shown -/
structure Fd (k n : Nat) (d : PyData) : Prop where
  sh : d.showable = true
  hd : d.hasDict = false
  dp : d.depth ≤ k
  ln : d.shown.length ≤ n
theorem Fd.up {k k' n n' : Nat} {d : PyData} (f : Fd k n d) (h : k ≤ k') (h' : n ≤ n') : Fd k' n' d := ⟨f.sh, f.hd, Nat.le_trans f.dp h, Nat.le_trans f.ln h'⟩
theorem fd_none : Fd 0 4 .none := ⟨rfl, rfl, Nat.le_refl _, by decide +kernel⟩
theorem fd_int {i : Int} (h : i.natAbs < 10 ^ 40) : Fd 0 41 (.int i) := by
  refine ⟨?_, rfl, Nat.le_refl _, ?_⟩
  · show decide (i.natAbs.log2 < 1920) = true
    rw [decide_eq_true_eq]
    by_cases e : i.natAbs = 0
    · rw [e]; decide
    · rw [Nat.log2_lt e]
      exact Nat.lt_of_lt_of_le h (by decide +kernel)
  · show (Str.ofString (toString i)).length ≤ 41
    rw [ofString_len]
    exact int_text_length_le10 (by decide) h
theorem piled_le {n : Nat} : ∀ {ts : List Str}, (∀ t ∈ ts, t.length ≤ n) → piled ts ≤ ts.length * (n + 2)
  | [], _ => by simp [piled]
  | t :: ts, h => by
    have ih := piled_le (n := n) (ts := ts) fun u hu => h u (by simp [hu])
    have h1 := h t (by simp)
    rw [piled_cons, List.length_cons, Nat.succ_mul]
    omega
theorem join_le (ts : List Str) : (Str.join ", " ts).length ≤ piled ts := by
  by_cases h : ts = []
  · subst h; simp [piled]; rfl
  · have := join_length_add ts h; omega
theorem shownAll_map : ∀ xs : List PyData, PyData.shownAll xs = xs.map PyData.shown
  | [] => rfl
  | x :: xs => by rw [PyData.shownAll, shownAll_map xs]; rfl
theorem showableAll_all : ∀ xs : List PyData, PyData.showableAll xs = xs.all PyData.showable
  | [] => rfl
  | x :: xs => by rw [PyData.showableAll, showableAll_all xs]; rfl
theorem hasDictAll_any : ∀ xs : List PyData, PyData.hasDictAll xs = xs.any PyData.hasDict
  | [] => rfl
  | x :: xs => by rw [PyData.hasDictAll, hasDictAll_any xs]; rfl
theorem depthAll_le {k : Nat} : ∀ {xs : List PyData}, (∀ x ∈ xs, x.depth ≤ k) → PyData.depthAll xs ≤ k
  | [], _ => Nat.zero_le _
  | x :: xs, h => by
    rw [PyData.depthAll]
    exact Nat.max_le.mpr ⟨h x (by simp), depthAll_le fun y hy => h y (by simp [hy])⟩
theorem fd_tup {k n : Nat} {xs : List PyData} (L : Nat) (h : ∀ x ∈ xs, Fd k n x) (hl : xs.length ≤ L) : Fd (k + 1) (L * (n + 2) + 3) (.tuple xs) := by
  refine ⟨?_, ?_, Nat.succ_le_succ (depthAll_le fun x hx => (h x hx).dp), ?_⟩
  · rw [PyData.showable, showableAll_all, List.all_eq_true]; exact fun x hx => (h x hx).sh
  · rw [PyData.hasDict, hasDictAll_any, List.any_eq_false]; exact fun x hx => by rw [(h x hx).hd]; exact Bool.false_ne_true
  · show (tupleText (PyData.shownAll xs)).length ≤ _
    rw [shownAll_map]
    unfold tupleText
    rw [strLen_append, strLen_append]
    have e1 : ((("(" : String) : Str)).length = 1 := rfl
    have e3 : (((if (xs.map PyData.shown).length == 1 then ",)" else ")" : String) : Str)).length ≤ 2 := by split <;> decide
    have h4 := join_le (xs.map PyData.shown)
    have h5 := piled_le (n := n) (ts := xs.map PyData.shown) fun t ht => by
      obtain ⟨x, hx, rfl⟩ := List.mem_map.mp ht
      exact (h x hx).ln
    rw [List.length_map] at h5
    have h6 : xs.length * (n + 2) ≤ L * (n + 2) := Nat.mul_le_mul_right _ hl
    rw [e1]
    omega
theorem textFrom_le : ∀ (ts : List Str) (k : Nat) (acc : Str), (textFrom k acc ts).length ≤ acc.length + piled ts
  | [], k, acc => by simp [textFrom, piled]
  | t :: ts, k, acc => by
    have ih := textFrom_le ts (k + 1) (acc ++ (if k > 0 then ", " else "" : String) ++ t)
    rw [strLen_append, strLen_append] at ih
    have e3 : (((if k > 0 then ", " else "" : String) : Str)).length ≤ 2 := by split <;> decide
    rw [piled_cons]
    unfold textFrom
    omega
theorem fd_lst {k n : Nat} {xs : List PyData} (L : Nat) (h : ∀ x ∈ xs, Fd k n x) (hl : xs.length ≤ L) : Fd (k + 1) (L * (n + 2) + 3) (.list xs) := by
  refine ⟨?_, ?_, Nat.succ_le_succ (depthAll_le fun x hx => (h x hx).dp), ?_⟩
  · rw [PyData.showable, showableAll_all, List.all_eq_true]; exact fun x hx => (h x hx).sh
  · rw [PyData.hasDict, hasDictAll_any, List.any_eq_false]; exact fun x hx => by rw [(h x hx).hd]; exact Bool.false_ne_true
  · show (listText (PyData.shownAll xs)).length ≤ _
    rw [shownAll_map]
    unfold listText
    rw [strLen_append]
    have e1 : ((("[" : String) : Str)).length = 1 := rfl
    have e3 : ((("]" : String) : Str)).length = 1 := rfl
    have h4 := textFrom_le (xs.map PyData.shown) 0 ("[" : Str)
    have h5 := piled_le (n := n) (ts := xs.map PyData.shown) fun t ht => by
      obtain ⟨x, hx, rfl⟩ := List.mem_map.mp ht
      exact (h x hx).ln
    rw [List.length_map] at h5
    have h6 : xs.length * (n + 2) ≤ L * (n + 2) := Nat.mul_le_mul_right _ hl
    omega
/-- repr of what can be shown -/
theorem o_repr {k n : Nat} {d : PyData} (f : Fd k n d) (hk : k ≤ 40) (hn : n ≤ 16000000) : reprF [d] = some (.str d.shown) := by
  have ok : reprOk d = true := by
    unfold reprOk
    have h1 := Nat.le_trans f.dp hk
    have h2 := Nat.le_trans f.ln hn
    simp [f.sh, f.hd, h1, h2]
  unfold reprF
  split
  · rename_i e
    cases e
    exact absurd f.hd (by simp [PyData.hasDict])
  · rename_i d' _ e
    cases e
    rw [if_pos ok]
  · rename_i h1 h2
    exact absurd rfl (h2 d)
/-! ## slots that nothing reads any more are given up -/
def sWp (vs : List Nat) (b : En → Sto → SR) : En → Sto → SR := fun env st => (b env st).seq fun env1 st1 => .nx (wipeE env1 vs) st1
def sWi (vs : List Nat) (b : En → Sto → SR) : En → Sto → SR := fun env st => b (wipeE env vs) st
theorem EnvR.less {K : Frg} {n : Nat} {H : Hp} {m : Mp} {env : En} {σ : L2.St} (h : EnvR K H m n env σ) (i : Nat) : EnvR K H m n (env.set i none) σ := by
  refine ⟨by simp [h.len], fun j u e => ?_⟩
  by_cases q : i = j
  · subst q
    by_cases l : i < env.length
    · rw [List.getElem?_set_self l] at e; cases e
    · rw [List.getElem?_eq_none (by simpa using l)] at e; cases e
  · rw [List.getElem?_set_ne q] at e
    exact h.at' j u e
theorem EnvR.lesss {K : Frg} {n : Nat} {H : Hp} {m : Mp} {env : En} {σ : L2.St} (h : EnvR K H m n env σ) : ∀ vs : List Nat, EnvR K H m n (wipeE env vs) σ
  | [] => h
  | i :: vs => (EnvR.lesss h vs).less i
theorem db_wp {X : Cx} {es : List Stmt} {c : En → Sto → SR} (vs : List Nat) (h : DB X es c) : DB X es (sWp vs c) := by
  refine ⟨fun W tk => PSs.imp (h.pss W tk) fun D σ H ⟨m, env, st, S, R, hp⟩ => ⟨m, env, st, S, R, ?_⟩⟩
  unfold sWp at hp
  rw [SR.post_seq] at hp
  exact SR.post_mono hp (fun env1 st1 q σ1 H1 m1 f1 S1 R1 => q σ1 H1 m1 f1 S1 (R1.lesss vs)) (fun _ _ q => q) fun _ _ q => q
@[simp] theorem x_wp (vs : List Nat) (b : En → Sto → SR) (env : En) (st : Sto) : sWp vs b env st = (b env st).seq fun env1 st1 => .nx (wipeE env1 vs) st1 := rfl
@[simp] theorem x_wi (vs : List Nat) (b : En → Sto → SR) (env : En) (st : Sto) : sWi vs b env st = b (wipeE env vs) st := rfl
@[simp] theorem wipe_nil (env : En) : wipeE env [] = env := rfl
@[simp] theorem wipe_cons (env : En) (i : Nat) (vs : List Nat) : wipeE env (i :: vs) = (wipeE env vs).set i none := rfl
/-- every turn goes on; what there is behind i turns is known -/
theorem forL_at {g : Wv → En → Option En} {b : En → Sto → SR} (E : Nat → En) (S : Nat → Sto) (xs : List PyData) (h : ∀ i x, xs[i]? = some x → ∃ env1, g (.d x) (E i) = some env1 ∧ b env1 (S i) = .nx (E (i + 1)) (S (i + 1))) :
    forL g b [] xs (E 0) (S 0) = .nx (E xs.length) (S xs.length) := by
  obtain ⟨env, st, e, rfl, rfl⟩ := forL_goI (g := g) (b := b) (fun i env st => env = E i ∧ st = S i) xs 0 (fun i x hx env st hI => by
    rw [Nat.zero_add] at hI ⊢
    obtain ⟨rfl, rfl⟩ := hI
    obtain ⟨env1, e1, e2⟩ := h i x hx
    exact ⟨env1, _, _, e1, e2, rfl, rfl⟩) (E 0) (S 0) ⟨rfl, rfl⟩
  rw [e, Nat.zero_add]
/-- a fold: the state is of a type of its own -/
theorem forL_fold {α β : Type} {g : Wv → En → Option En} {b : En → Sto → SR} (enc : α → PyData) (E : β → En) (S : β → Sto) (f : β → α → β) (I : β → Prop) : ∀ (L : List α), (∀ s a, a ∈ L → I s → ∃ env1, g (.d (enc a)) (E s) = some env1 ∧ b env1 (S s) = .nx (E (f s a)) (S (f s a)) ∧ I (f s a)) →
    ∀ s, I s → forL g b [] (L.map enc) (E s) (S s) = .nx (E (L.foldl f s)) (S (L.foldl f s)) ∧ I (L.foldl f s)
  | [], _, s, hs => ⟨by simp, hs⟩
  | a :: L, h, s, hs => by
    obtain ⟨env1, e1, e2, h2⟩ := h s a (by simp) hs
    obtain ⟨i1, i2⟩ := forL_fold enc E S f I L (fun s x hx => h s x (by simp [hx])) (f s a) h2
    exact ⟨by rw [List.map_cons, forL_cons, e1]; simp [e2, i1], i2⟩
/-- what a loop that only seeks gives -/
def seek (r : Option Rt) (env : En) (st : Sto) : SR := match r with
  | some r => .rt r st
  | none => .nx env st
@[simp] theorem seek_some (r : Rt) (env : En) (st : Sto) : seek (some r) env st = .rt r st := rfl
@[simp] theorem seek_none (env : En) (st : Sto) : seek none env st = .nx env st := rfl
theorem forL_seek {α : Type} {g : Wv → En → Option En} {b : En → Sto → SR} {env : En} {st : Sto} (enc : α → PyData) (q : α → Option Rt) : ∀ (L : List α), (∀ a ∈ L, ∃ env1, g (.d (enc a)) env = some env1 ∧ b env1 st = seek (q a) env st) →
    forL g b [] (L.map enc) env st = seek (L.findSome? q) env st
  | [], _ => by simp
  | a :: L, h => by
    obtain ⟨env1, e1, e2⟩ := h a (by simp)
    rw [List.map_cons, forL_cons, e1, List.findSome?_cons]
    dsimp only
    rw [e2]
    cases q a with
    | none => exact forL_seek enc q L fun x hx => h x (by simp [hx])
    | some r => rfl
/-- a comprehension of typed things -/
theorem lcL_mapE {α : Type} {g : Wv → En → Option En} {c : En → Sto → Rs Wv} {env : En} {st : Sto} (enc out : α → PyData) : ∀ (L : List α) (acc : List PyData), (∀ a ∈ L, ∃ env1, g (.d (enc a)) env = some env1 ∧ c env1 st = .ok (.d (out a)) st) → lcL g tYs c [] env (L.map enc) acc st = .ok (acc ++ L.map out) st
  | [], acc, _ => by simp [lcL]
  | a :: L, acc, q => by
    obtain ⟨env1, e1, e2⟩ := q a (by simp)
    have ih := lcL_mapE (g := g) (c := c) (env := env) (st := st) enc out L (acc ++ [out a]) fun y hy => q y (by simp [hy])
    simp [lcL, e1, e2, ih]
theorem lcL_filterE {α : Type} {g : Wv → En → Option En} {t : En → Sto → Rs Bool} {c : En → Sto → Rs Wv} {env : En} {st : Sto} (enc out : α → PyData) (p : α → Bool) : ∀ (L : List α) (acc : List PyData), (∀ a ∈ L, ∃ env1, g (.d (enc a)) env = some env1 ∧ t env1 st = .ok (p a) st ∧ (p a = true → c env1 st = .ok (.d (out a)) st)) →
    lcL g t c [] env (L.map enc) acc st = .ok (acc ++ (L.filter p).map out) st
  | [], acc, _ => by simp [lcL]
  | a :: L, acc, q => by
    obtain ⟨env1, e1, e2, e3⟩ := q a (by simp)
    have ih := lcL_filterE (g := g) (t := t) (c := c) (env := env) (st := st) enc out p L
    cases hp : p a with
    | true => simp [lcL, e1, e2, hp, e3 hp, ih (acc ++ [out a]) fun y hy => q y (by simp [hy])]
    | false => simp [lcL, e1, e2, hp, ih acc fun y hy => q y (by simp [hy])]
end
section
variable [Wtp] [Tbl]
/-! ## new lists of the store that an operation makes -/
def mulN : PyData → PyData → Option (List PyData)
  | .list xs, .int k => if 0 ≤ k ∧ k ≤ 1000 ∧ xs.length ≤ 1000 then some (List.replicate k.toNat xs).flatten else none
  | _, _ => none
def newO (r : Option (List PyData)) (st : Sto) : Rs Wv := match r with
  | some xs => .ok (.r st.length) (st ++ [.lst xs])
  | none => .no
@[simp] theorem newO_some (xs : List PyData) (st : Sto) : newO (some xs) st = .ok (.r st.length) (st ++ [.lst xs]) := rfl
def eOp2N (f : PyData → PyData → Option (List PyData)) (ca cb : En → Sto → Rs Wv) : En → Sto → Rs Wv := fun env st => (ca env st).bind fun a st1 => (cb env st1).bind fun b st2 => look1 a st2 fun d => look1 b st2 fun e => newO (f d e) st2
def eOpNN (f : List PyData → Option (List PyData)) (cs : En → Sto → Rs (List Wv)) : En → Sto → Rs Wv := fun env st => (cs env st).bind fun ws st1 => match looks ws st1 with
  | some ds => newO (f ds) st1
  | none => .no
@[simp] theorem x_op2n (f : PyData → PyData → Option (List PyData)) (a b : En → Sto → Rs Wv) (env : En) (st : Sto) : eOp2N f a b env st = (a env st).bind fun v st1 => (b env st1).bind fun w st2 => look1 v st2 fun d => look1 w st2 fun e => newO (f d e) st2 := rfl
@[simp] theorem x_opnn (f : List PyData → Option (List PyData)) (c : En → Sto → Rs (List Wv)) (env : En) (st : Sto) : eOpNN f c env st = (c env st).bind fun ws st1 => match looks ws st1 with
  | some ds => newO (f ds) st1
  | none => .no := rfl
@[simp] theorem o_mulN (xs : List PyData) (k : Int) : mulN (.list xs) (.int k) = if 0 ≤ k ∧ k ≤ 1000 ∧ xs.length ≤ 1000 then some (List.replicate k.toNat xs).flatten else none := rfl
def nOut (K : Frg) (H : Hp) (Z : Addr → Prop) (xs : List PyData) (Q : VK) : Prop := ∀ p vs, H p = none → RpA K H Z vs xs → Q (.ref p) (upd H p (.lst vs))
def rNw (K : Frg) (f : PyData → PyData → Option (List PyData)) : R2 := fun x y H Q => ∃ Z d e xs, RT K H Z x d ∧ RT K H Z y e ∧ f d e = some xs ∧ nOut K H Z xs Q
def rNwN (K : Frg) (f : List PyData → Option (List PyData)) : List V → Hp → VK → Prop := fun vs H Q => ∃ Z ds xs, RTs K H Z vs ds ∧ f ds = some xs ∧ nOut K H Z xs Q
section
variable {M : Md} {X : Cx} {B : Tb} {k : Nat} {σ : L2.St} {H : Hp} {m : Mp} {W : WX} {ca cb : En → Sto → Rs Wv} {cs : En → Sto → Rs (List Wv)} {pos p : Pos} {a b : Expr}
theorem nOut_of {st0 st1 : Sto} {H1 : Hp} {m1 : Mp} {r : Option (List PyData)} {Q : VK} {E : Xc → Sto → Prop} (f1 : Fol m st0.length H m1 st1.length H1) (S1 : Sim X.K H1 m1 st1) (q : (newO r st1).post (okE X m st0.length H Q) E) : ∃ xs, r = some xs ∧ nOut X.K H1 (Off m1 st1.length) xs Q := by
  cases r with
  | none => exact q.elim
  | some xs =>
    refine ⟨xs, rfl, fun p vs hn ra => ?_⟩
    have q : okE X m st0.length H Q (.r st1.length) (st1 ++ [.lst xs]) := q
    have f2 : Fol m1 st1.length H1 (mup m1 st1.length p) (st1.length + 1) (upd H1 p (.lst vs)) := fol_new hn
    have hl : (st1 ++ [Ob.lst xs]).length = st1.length + 1 := by simp
    refine q _ _ (mup m1 st1.length p) ?_ (S1.new hn ⟨vs, upd_same, ra.mv f2.kp⟩) ?_
    · rw [hl]; exact f1.trans f2
    · rw [hl]; exact ⟨Nat.lt_succ_self _, by rw [mup_new]⟩
theorem te_new (f : PyData → PyData → Option (List PyData)) {Q : VK} (h : tE X W (eOp2N f ca cb) σ H Q) : tOp (rNw X.K f) (tE X W ca) (tE X W cb) σ H Q := by
  obtain ⟨m, env, st, S, R, hp⟩ := h
  unfold eOp2N at hp
  rw [Rs.post_bind] at hp
  refine ⟨m, env, st, S, R, Rs.post_mono hp (fun w st1 q v H1 m1 f1 S1 r1 => ?_) fun _ _ q => q⟩
  rw [Rs.post_bind] at q
  refine ⟨m1, env, st1, S1, R.mv f1, Rs.post_mono q (fun w2 st2 q v2 H2 m2 f2 S2 r2 => ?_) fun _ _ q => okX.tr f1 q⟩
  obtain ⟨d, e1, q⟩ := look1_post q
  obtain ⟨e, e2, q⟩ := look1_post q
  obtain ⟨xs, e3, o⟩ := nOut_of (f1.trans f2) S2 q
  exact ⟨_, d, e, xs, look_rt S2 (r1.mv f2) e1, look_rt S2 r2 e2, e3, o⟩
theorem de_binN {op : Operator} {f : PyData → PyData → Option (List PyData)} (ho : OpR X (binaryOp op) (rNw X.K f)) (ha : DE X a ca) (hb : DE X b cb) : DE X (.BinOp a op b pos) (eOp2N f ca cb) :=
  ⟨fun W tk => PE.imp (pe_op ho (ha.pe W tk) (hb.pe W tk)) fun σ H Q => te_new f⟩
theorem n_mul : OpR X (binaryOp .Mult) (rNw X.K mulN) := by
  intro pins s σ H x y v u Q I rx ry ⟨Z, d, e, xs, hd, he, hf, ho⟩
  unfold mulN at hf
  split at hf
  · split at hf
    · rename_i xs k hk
      cases hf
      obtain ⟨a, vs, rfl, h1, h2⟩ := hd.lst
      cases he.int
      exact op_repP pins s σ H _ _ v u Q I rx ry ⟨a, k, vs, rfl, rfl, h1, hk.1, hk.2.1, by rw [h2.len]; exact hk.2.2, fun p hn => ho p _ hn (h2.rep _)⟩
    · cases hf
  · cases hf
def slDN (lo hi : Option Int) : PyData → Option (List PyData)
  | .list xs => some (cutD xs lo hi)
  | _ => none
def eSliceN (c : En → Sto → Rs Wv) (l h : En → Sto → Rs (Option Int)) : En → Sto → Rs Wv := fun env st => (c env st).bind fun w st1 => (l env st1).bind fun lo st2 => (h env st2).bind fun hi st3 => look1 w st3 fun d => newO (slDN lo hi d) st3
@[simp] theorem o_slDN (lo hi : Option Int) (xs : List PyData) : slDN lo hi (.list xs) = some (cutD xs lo hi) := rfl
@[simp] theorem x_sliceN (env : En) (st : Sto) (c : En → Sto → Rs Wv) (l h : En → Sto → Rs (Option Int)) : eSliceN c l h env st = ((c env st).bind fun w st1 => (l env st1).bind fun i st2 => (h env st2).bind fun j st3 => look1 w st3 fun d => newO (slDN i j d) st3) := rfl
/-! a, b = x, y where a name lies in a cell: stores' lists too -/
def gWNl : List Wv → En → Option En := fun ws env => match ws with
  | [] => some env
  | _ => none
def gWCn (g : Wv → En → Option En) (h : List Wv → En → Option En) : List Wv → En → Option En := fun ws env => match ws with
  | w :: r => (g w env).bind (h r)
  | [] => none
def sAsgW (g : List Wv → En → Option En) (cs : En → Sto → Rs (List Wv)) : En → Sto → SR := fun env st => (cs env st).sb fun ws st1 => match g ws env with
  | some env' => .nx env' st1
  | none => .no
@[simp] theorem x_asgW (g : List Wv → En → Option En) (cs : En → Sto → Rs (List Wv)) (env : En) (st : Sto) : sAsgW g cs env st = (cs env st).sb fun ws st1 => match g ws env with | some env' => .nx env' st1 | none => .no := rfl
@[simp] theorem x_gWNl (env : En) : gWNl [] env = some env := rfl
@[simp] theorem x_gWCn (g : Wv → En → Option En) (h : List Wv → En → Option En) (w : Wv) (r : List Wv) (env : En) : gWCn g h (w :: r) env = (g w env).bind (h r) := rfl
end
/-! ## a, b = x, y where one of the names is captured -/
section
variable {M : Md} {X : Cx} {B : Tb} {k : Nat} {x y z : Str} {px py pz pt pt2 : Pos} {kt k2 : Nat} {vs : List Expr}
theorem notLoc (c : Cxt M X B k) (h : x ∈ B.cs) : ¬ X.env.kindOf x = some NameKind.local := by
  rcases c.cs x h with e | e
  · rw [show X.env.kindOf x = some .cell from e]; decide
  · rw [show X.env.kindOf x = some .free from e]; decide
theorem sw2n (c : Cxt M X B k) (h : x ∈ B.cs ∨ y ∈ B.cs) : swappedStores [.Tuple [.Name x px, .Name y py] kt pt] (.Tuple vs k2 pt2) X.env = pure none := by
  unfold swappedStores
  rcases h with h | h
  · have e := notLoc c h
    by_cases q : X.env.kindOf y = some NameKind.local ∧ py.line = px.line <;> simp [e, q, Expr.pos, List.filterMap_cons]
  · have e := notLoc c h
    by_cases q : X.env.kindOf x = some NameKind.local <;> simp [e, q, Expr.pos, List.filterMap_cons]
end
/-! ## a comprehension that draws -/
theorem lcL_pen {g : Wv → En → Option En} {c : En → Sto → Rs Wv} {env : En} {p : Nat} (Q : PyData → Prop) : ∀ (xs acc : List PyData) (st : Sto), Pen p st → (∀ x ∈ xs, ∀ st, Pen p st → ∃ env1 y st', g (.d x) env = some env1 ∧ c env1 st = .ok (.d y) st' ∧ Q y ∧ Pn p st st') →
    ∃ ys st', lcL g tYs c [] env xs acc st = .ok (acc ++ ys) st' ∧ ys.length = xs.length ∧ (∀ y ∈ ys, Q y) ∧ Pn p st st'
  | [], acc, st, h, _ => ⟨[], st, by simp [lcL], rfl, fun y hy => absurd hy List.not_mem_nil, .refl h⟩
  | x :: xs, acc, st, h, q => by
    obtain ⟨env1, y, st1, e1, e2, hy, pn⟩ := q x (by simp) st h
    obtain ⟨ys, st2, e3, hl, hys, pn2⟩ := lcL_pen Q xs (acc ++ [y]) st1 pn.pen fun z hz => q z (by simp [hz])
    refine ⟨y :: ys, st2, by simp [lcL, e1, e2, e3], by simp [hl], fun z hz => ?_, pn.trans pn2⟩
    rcases List.mem_cons.mp hz with rfl | hz
    · exact hy
    · exact hys z hz
/-! ## loops over lists of the store -/
end
section
variable [Wtp] [Tbl]
/-! ### {k: v, ..} that nobody writes -/
def pairsW : List Wv → Option (List (PyData × PyData))
  | [] => some []
  | .d c :: .d y :: ws => match keyD c, pairsW ws with
    | some _, some es => some ((c, y) :: es)
    | _, _ => none
  | _ => none
def mergeD (es more : List (PyData × PyData)) : List (PyData × PyData) := more.foldl (fun acc e => match keyD e.1 with
  | some k => dPut acc k e.1 e.2
  | none => acc) es
def dicW (ws : List Wv) (st : Sto) : Rs Wv := match pairsW ws with
  | some es => if es.length ≤ 15 then .ok (.d (.dict (mergeD [] es))) st else .no
  | none => .no
def eDic (cs : En → Sto → Rs (List Wv)) : En → Sto → Rs Wv := fun env st => (cs env st).bind dicW
@[simp] theorem x_dic (env : En) (st : Sto) (cs : En → Sto → Rs (List Wv)) : eDic cs env st = (cs env st).bind dicW := rfl
/-! ### least and greatest of a list -/
open PySem.W in
def alikeB (xs : List PyData) : Bool := xs.all (fun x => xs.all (alike x)) && xs.all (fun x => match x with | .none => false | _ => true)
open PySem.W in
theorem alikeB_all {xs : List PyData} (h : alikeB xs = true) : AlikeAll xs := by
  unfold alikeB at h
  rw [Bool.and_eq_true, List.all_eq_true, List.all_eq_true] at h
  exact ⟨fun x hx y hy => List.all_eq_true.mp (h.1 x hx) y hy, fun x hx e => by have := h.2 x hx; subst e; cases this⟩
open PySem.W in
theorem minD_mem : ∀ (x : PyData) (xs : List PyData), minD x xs ∈ x :: xs
  | x, [] => by simp [minD]
  | x, y :: ys => by
    have h := minD_mem (if dataLt y x then y else x) ys
    have e : minD x (y :: ys) = minD (if dataLt y x then y else x) ys := rfl
    rw [e]
    rcases List.mem_cons.mp h with h | h
    · rw [h]; split
      · simp
      · simp
    · exact List.mem_cons_of_mem _ (List.mem_cons_of_mem _ h)
open PySem.W in
theorem maxD_mem : ∀ (x : PyData) (xs : List PyData), maxD x xs ∈ x :: xs
  | x, [] => by simp [maxD]
  | x, y :: ys => by
    have h := maxD_mem (if dataLt x y then y else x) ys
    have e : maxD x (y :: ys) = maxD (if dataLt x y then y else x) ys := rfl
    rw [e]
    rcases List.mem_cons.mp h with h | h
    · rw [h]; split
      · simp
      · simp
    · exact List.mem_cons_of_mem _ (List.mem_cons_of_mem _ h)
open PySem.W in
def bestF (f : PyData → List PyData → PyData) : List PyData → Option PyData
  | [d] => match seqOf d with
    | some (x :: xs) => if alikeB (x :: xs) = true ∧ PyData.depthAll (x :: xs) ≤ 40 then some (f x xs) else none
    | _ => none
  | _ => none
section
variable {X : Cx} {pins : List (Addr × Obj)} {s : Shared} {σ : L2.St} {H : Hp} {Z : Addr → Prop}
theorem vals_back : ∀ {xs : List V} {us : List Value} {i : Nat} {u : Value}, Vals xs us → us[i]? = some u → ∃ x, xs[i]? = some x ∧ RelV x u
  | _, _, _, _, .nil, e => by simp at e
  | _, _, 0, _, .cons r _, e => by simp at e; subst e; exact ⟨_, rfl, r⟩
  | _, _, i + 1, _, .cons _ r, e => by simp at e; simpa using vals_back r e
open PySem.W in
theorem pick_out (I : Inv X pins σ H s) {vs : List V} {xs : List PyData} {its : List Value} (r : RpA X.K H Z vs xs) (rv : Vals vs its) (hal : AlikeAll xs) {d : PyData} (hd : d ∈ xs) {i : Nat} {u : Value} (hu : its[i]? = some u) {h' : Heap} {bs : List Addr} (q : Reads h' u d bs)
    (hk : ∀ b o, s.heap.get? b = some o → h'.get? b = some o) : ∃ v, RelV v u ∧ Rp X.K H Z v d := by
  obtain ⟨v, hv, rel⟩ := vals_back rv hu
  have hi : i < xs.length := by rw [← r.len]; exact (List.getElem?_eq_some_iff.mp hv).1
  obtain ⟨v', hv', rp⟩ := r.get (List.getElem?_eq_getElem hi)
  rw [hv] at hv'
  cases hv'
  obtain ⟨as, q2⟩ := Rp.reads I _ v u rp rel
  have e := alike_unique xs[i] d u as bs (hal.1 _ (List.getElem_mem hi) _ hd) (reads_keeps hk q2) q
  exact ⟨v, rel, e ▸ rp⟩
open PySem.W in
theorem c_min1 {k : Nat} (hc : X.calm = true) (hr : L2H.RoomH k X.A) : CallR X (.builtin "min") (rN X.K (bestF minD)) := by
  intro pins s σ H xs us Q I r ⟨Z, ds, e, hz, hd, hf, ho⟩
  have hu := room_eq hr (show 60 ≤ 60 by decide)
  unfold bestF at hf
  split at hf
  · obtain ⟨v, rfl, h⟩ := rts1 hd
    split at hf
    · rename_i x xs q
      split at hf
      · rename_i hc2
        cases hf
        have ha := alikeB_all hc2.1
        have h40 := hc2.2
        unfold seqOf at q
        split at q
        · cases q
          obtain ⟨a, vs, rfl, h1, h2⟩ := h.lst
          obtain ⟨its, rv, hl, _⟩ := I.list h1.sq
          obtain ⟨as, rd⟩ := RpA.reads I _ vs its h2 rv
          rw [Vals.ref1 r]
          refine min_list_data (I.ok.hd hc) hl.isList rd ha (by show X.A.units + 1 + _ < cLine; omega) fun i v h' tk bs hi q hk => ?_
          obtain ⟨w, rel, rp⟩ := pick_out I h2 rv ha (minD_mem x xs) (by simpa using hi) q hk
          exact ⟨w, H, I.kept (t' := tk) hk, rel, rout_here ho rp⟩
        · cases q
          obtain ⟨a, vs, rfl, h1, h2⟩ := h.tup
          obtain ⟨its, rv, hl, _⟩ := I.tuple h1
          obtain ⟨as, rd⟩ := RpA.reads I _ vs its h2 rv
          rw [Vals.ref1 r]
          refine min_tuple_data (I.ok.hd hc) hl rd ha (by show X.A.units + 1 + _ < cLine; omega) fun i v h' tk bs hi q hk => ?_
          obtain ⟨w, rel, rp⟩ := pick_out I h2 rv ha (minD_mem x xs) (by simpa using hi) q hk
          exact ⟨w, H, I.kept (t' := tk) hk, rel, rout_here ho rp⟩
        · cases q
      · cases hf
    · cases hf
  · cases hf
open PySem.W in
theorem c_max1 {k : Nat} (hc : X.calm = true) (hr : L2H.RoomH k X.A) : CallR X (.builtin "max") (rN X.K (bestF maxD)) := by
  intro pins s σ H xs us Q I r ⟨Z, ds, e, hz, hd, hf, ho⟩
  have hu := room_eq hr (show 60 ≤ 60 by decide)
  unfold bestF at hf
  split at hf
  · obtain ⟨v, rfl, h⟩ := rts1 hd
    split at hf
    · rename_i x xs q
      split at hf
      · rename_i hc2
        cases hf
        have ha := alikeB_all hc2.1
        have h40 := hc2.2
        unfold seqOf at q
        split at q
        · cases q
          obtain ⟨a, vs, rfl, h1, h2⟩ := h.lst
          obtain ⟨its, rv, hl, _⟩ := I.list h1.sq
          obtain ⟨as, rd⟩ := RpA.reads I _ vs its h2 rv
          rw [Vals.ref1 r]
          refine max_list_data (I.ok.hd hc) hl.isList rd ha (by show X.A.units + 1 + _ < cLine; omega) fun i v h' tk bs hi q hk => ?_
          obtain ⟨w, rel, rp⟩ := pick_out I h2 rv ha (maxD_mem x xs) (by simpa using hi) q hk
          exact ⟨w, H, I.kept (t' := tk) hk, rel, rout_here ho rp⟩
        · cases q
          obtain ⟨a, vs, rfl, h1, h2⟩ := h.tup
          obtain ⟨its, rv, hl, _⟩ := I.tuple h1
          obtain ⟨as, rd⟩ := RpA.reads I _ vs its h2 rv
          rw [Vals.ref1 r]
          refine max_tuple_data (I.ok.hd hc) hl rd ha (by show X.A.units + 1 + _ < cLine; omega) fun i v h' tk bs hi q hk => ?_
          obtain ⟨w, rel, rp⟩ := pick_out I h2 rv ha (maxD_mem x xs) (by simpa using hi) q hk
          exact ⟨w, H, I.kept (t' := tk) hk, rel, rout_here ho rp⟩
        · cases q
      · cases hf
    · cases hf
  · cases hf
end
end
section
variable [Wtp] [Tbl]
/-! ### sorted -/
def sortD (b : Bool) (xs : List PyData) : List PyData := xs.mergeSort (PySem.W.dataLe b id)
def sortB (xs : List PyData) : Bool := xs.all (fun x => xs.all (PySem.W.alike x)) && (xs.all (fun d => match d with | .tuple (_ :: _) => true | _ => false) || xs.all fun d => match d with | .none => false | .tuple _ => false | _ => true)
theorem sortB_all {xs : List PyData} (h : sortB xs = true) : PySem.W.AllAlike xs ∧ PySem.W.Sortable xs := by
  unfold sortB at h
  rw [Bool.and_eq_true, Bool.or_eq_true, List.all_eq_true, List.all_eq_true, List.all_eq_true] at h
  obtain ⟨h1, h2⟩ := h
  refine ⟨fun x hx y hy => List.all_eq_true.mp (h1 x hx) y hy, ?_⟩
  rcases h2 with h2 | h2
  · refine .inl fun d hd => ?_
    have := h2 d hd
    split at this
    · exact ⟨_, _, rfl⟩
    · cases this
  · refine .inr fun d hd => ?_
    have := h2 d hd
    split at this
    · cases this
    · cases this
    · rename_i a b
      exact ⟨a, b⟩
def srtN (b : Bool) : List PyData → Option (List PyData)
  | [d] => match seqOf d with
    | some xs => if sortB xs = true ∧ PyData.depthAll xs ≤ 40 ∧ xs.length ≤ 1000000 then some (sortD b xs) else none
    | none => none
  | _ => none
theorem depthAll_get {k : Nat} : ∀ {xs : List PyData}, PyData.depthAll xs ≤ k → ∀ x ∈ xs, x.depth ≤ k
  | [], _, x, h => absurd h List.not_mem_nil
  | y :: ys, h, x, hx => by
    rw [PyData.depthAll] at h
    rcases List.mem_cons.mp hx with rfl | hx
    · exact Nat.le_trans (Nat.le_max_left _ _) h
    · exact depthAll_get (Nat.le_trans (Nat.le_max_right _ _) h) x hx
section
open PySem.W
variable {prog : Program} {w : World} {A : Around} {E : Value → Shared → Prop} {s : Shared} {β : Type} {vs : List Value} {bs : List β} {enc : β → PyData} {R : Value → β → Prop}
theorem sortedHeap_at' {h : Heap} {a : Addr} {vs : List Value} {out : Array Value} {xs : Array Value} {n : Nat} (ho : h.get? a = some (seqObj "list" xs n)) : ∃ e, (sortedHeap h a vs out).get? a = some (seqObj "list" out e) := by
  unfold sortedHeap
  have h1 : (h.update a (Obj.mapSeq fun _ => #[])).get? a = some (Obj.mapSeq (fun _ => #[]) (seqObj "list" xs n)) := Heap.get?_update_self _ ho rfl
  have h2 := Heap.get?_push_of_some (seqObj "list" #[] 0) (Heap.get?_push_of_some (seqObj "tuple" vs.toArray 0) h1)
  have h3 := Heap.get?_update_self (Obj.mapSeq fun _ => out) h2 rfl
  exact ⟨_, h3⟩
theorem sortedHeap_old' {h : Heap} {a b : Addr} {vs : List Value} {out : Array Value} {o : Obj} (hb : b ≠ a) (e : h.get? b = some o) : (sortedHeap h a vs out).get? b = some o := by
  unfold sortedHeap
  rw [Heap.get?_update_ne _ _ _ _ hb]
  refine Heap.get?_push_of_some _ (Heap.get?_push_of_some _ ?_)
  rw [Heap.get?_update_ne _ _ _ _ hb]
  exact e
/-- the items of a list or a tuple, collected: where the new list lies -/
theorem gather {Q : List Value → Shared → Prop} {q : Addr} {T : String} {o : Obj} {xs : Array Value} {n : Nat} (hT : T = "list" ∨ T = "tuple") (ho : s.heap.get? q = some o) (hc : o.cls = .type T) (hd : o.data = .seq xs n) (hz : xs.size ≤ sizeLine)
    (fin : ∀ h', h'.objs.size = s.heap.objs.size + 1 → (∀ b u, s.heap.get? b = some u → h'.get? b = some u) → Q xs.toList { s with heap := h' }) : wpAny (model prog w) A (collect (.ref q)) Q E s := by
  generalize hp1 : s.heap.push { cls := .type "list", data := .seq ([] : List Value).toArray } = h1
  have at1 : h1.get? s.heap.objs.size = some { cls := .type "list", data := .seq #[] 0 } := by rw [← hp1]; exact Heap.get?_push_size _ rfl
  have kp1 : ∀ b u, s.heap.get? b = some u → h1.get? b = some u := fun b u e => by rw [← hp1]; exact Heap.get?_push_of_some _ e
  generalize hp2 : h1.update s.heap.objs.size (Obj.mapSeq (· ++ xs)) = h2
  have at2 := Heap.get?_update_self (Obj.mapSeq (· ++ xs)) at1 rfl
  rw [hp2] at at2
  have done : wpAny (model prog w) A (match Value.ref s.heap.objs.size with
      | Value.ref a => (do let u ← load a
                           match u.data with
                            | Data.seq zs _ => pure zs.toList
                            | _ => unsupported "internal:collect")
      | _ => unsupported "internal:collect") Q E { s with heap := h2 } := by
    show wpAny _ A (load s.heap.objs.size >>= _) _ _ { s with heap := h2 }
    refine wpAny_bind (wpAny_load at2 (wpAny_pure ?_))
    have e0 : (#[] : Array Value) ++ xs = xs := by simp
    show Q ((#[] : Array Value) ++ xs).toList { s with heap := h2 }
    rw [e0]
    refine fin h2 ?_ fun b u e => ?_
    · rw [← hp2, Heap.size_update, ← hp1, size_push']
    · rw [← hp2, Heap.get?_update_ne _ _ _ _ (Nat.ne_of_lt (Heap.lt_size e))]
      exact kp1 b u e
  unfold collect
  refine wpAny_bind (wpAny_runValue (codeAny_builtin PySem.F.entry_proto_collect ?_))
  rw [Around.under_plainId PySem.F.plain_proto_collect _]
  show wpAny _ A.in1 (newList [] >>= fun z => again (.builtin "list.__iadd__" ⟨[z, .ref q], []⟩)) _ _ s
  refine wpAny_bind (wpAny_newObj_type (wpAny_pure ⟨plainId_quiet PySem.F.plain_list_iadd _, codeAny_builtin PySem.F.entry_list_iadd ?_⟩))
  rw [Around.under_plainId PySem.F.plain_list_iadd _, hp1]
  show wpAny _ A.in1 (Builtin.List.listExtendWith (.ref s.heap.objs.size) (.ref q) (.ref s.heap.objs.size)) _ _ { s with heap := h1 }
  refine wpAny_mono (wpAny_extend_seq (A := A) (s := { s with heap := h1 }) (R := fun r t => r = .ok (.ret (.ref s.heap.objs.size)) ∧ t = { s with heap := h2 }) s.heap.objs.size q _ 0 hT at1 (kp1 _ _ ho) hc hd ⟨rfl, by rw [← hp2]⟩ (hsz := hz)) (fun r t ht => ?_) fun r t ht => absurd ht.1 (by simp)
  cases r with
  | again c => exact ⟨ht.1, codeAny_mono ht.2 fun r2 t2 ⟨e1, e2⟩ => by subst e1 e2; exact done⟩
  | done z =>
    obtain ⟨e1, e2⟩ := ht
    subst e2
    cases e1
    exact done
/-- sorted of a list or a tuple -/
theorem sorted_seq {l : Addr} {T : String} {o : Obj} {n : Nat} {kw : List (Str × Value)} {b : Bool} {Q : Value → Shared → Prop} (hT : T = "list" ∨ T = "tuple") (ho : s.heap.get? l = some o) (hc : o.cls = .type T) (hd : o.data = .seq vs.toArray n)
    (hk : ∀ x, Builtin.«list.sort» ⟨[.ref x], kw⟩ = Builtin.«list.sort» ⟨[.ref x], [(Str.ofString "reverse", .bool b)]⟩) (ha1 : argsOk "sorted" ⟨[.ref l], kw⟩) (ha2 : ∀ x, argsOk "list.sort" ⟨[.ref x], kw⟩)
    (e : EachIs R vs bs) (er : EachIs (fun v b => ∃ as, Reads s.heap v (enc b) as) vs bs) (hal : AllAlike (bs.map enc)) (hs : Sortable (bs.map enc)) (hL : bs.length ≤ sizeLine) (hu : ∀ b, b ∈ bs → A.units + 2 + (enc b).depth < cLine)
    (h : ∀ (h' : Heap) p out ep, s.heap.objs.size ≤ p → (∀ b o, s.heap.get? b = some o → h'.get? b = some o) → h'.get? p = some (seqObj "list" (List.toArray out) ep) → out.length = bs.length → EachIs R out (bs.mergeSort (dataLe b enc)) → Q (.ref p) { s with heap := h' }) :
    wpAny (model prog w) A (call (.builtin "sorted") [.ref l] kw) Q E s := by
  have hz : vs.length ≤ sizeLine := by rw [e.length]; exact hL
  refine call_function_entry_kw kind_sorted plain_sorted entry_sorted ha1 ?_
  unfold Builtin.«sorted»
  refine wpAny_bind (m := checkCount "sorted" 1 1 _) (wpAny_pure ?_)
  refine wpAny_bind (gather hT ho hc hd (by simpa using hz) fun h1 hsz kp => ?_)
  rw [show vs.toArray.toList = vs by simp]
  refine wpAny_bind (wpAny_newList ?_ hz)
  have hp : s.heap.objs.size ≤ h1.objs.size := by omega
  have hoL : (h1.push (seqObj "list" vs.toArray 0)).get? h1.objs.size = some (seqObj "list" vs.toArray 0) := Heap.get?_push_size _ rfl
  have kp2 : ∀ b o, s.heap.get? b = some o → b ≠ h1.objs.size ∧ (h1.push (seqObj "list" vs.toArray 0)).get? b = some o := fun b o q => ⟨Nat.ne_of_lt (Heap.lt_size (kp _ _ q)), Heap.get?_push_of_some _ (kp _ _ q)⟩
  show wpAny _ _ _ _ _ { s with heap := h1.push (seqObj "list" vs.toArray 0) }
  refine wpAny_bind (wpAny_holding (wpAny_call_entry_kw slot_list_sort ⟨_, hoL, rfl⟩ entry_list_sort ?body (ha2 _)))
  case body =>
    show wpAny (model prog w) A.in1.in1 (Builtin.«list.sort» ⟨[.ref h1.objs.size], kw⟩) _ _ _
    rw [hk]
    have er' : EachIs (fun v b => ∃ as, Reads (sortingHeap (h1.push (seqObj "list" vs.toArray 0)) h1.objs.size vs) v (enc b) as) vs bs := er.mono fun _ _ ⟨as, r⟩ => ⟨as, PyProof.Rows.Reads.keeps (fun c o q => sortingHeap_old (kp2 c o q).1 (kp2 c o q).2) r⟩
    refine list_sort_rev_vals (s := { s with heap := h1.push (seqObj "list" vs.toArray 0) }) hoL (SortsAt.data (s := { s with heap := sortingHeap (h1.push (seqObj "list" vs.toArray 0)) h1.objs.size vs }) (each_map (R := fun v d => ∃ as, Reads (sortingHeap (h1.push (seqObj "list" vs.toArray 0)) h1.objs.size vs) v d as) enc er') hal hs (bound_map hu)) hz ?_
    obtain ⟨ep, hat⟩ := sortedHeap_at' (vs := vs) (out := (sortVals (dataKind (sortingHeap (h1.push (seqObj "list" vs.toArray 0)) h1.objs.size vs) (bs.map enc)) b vs vs).toArray) hoL
    exact ⟨_, rfl, wpAny_pure ⟨_, rfl, h _ h1.objs.size _ ep hp (fun c o q => sortedHeap_old' (kp2 c o q).1 (kp2 c o q).2) hat (by rw [sortVals_length b rfl]; exact e.length) (sortVals_data b e er' hal)⟩⟩
end
section
variable {X : Cx} {pins : List (Addr × Obj)} {s : Shared} {σ : L2.St} {H : Hp} {Z : Addr → Prop}
open PySem.W in
theorem each_of {K : Frg} : ∀ {vs : List V} {us : List Value} {ds : List PyData}, RpA K H Z vs ds → Vals vs us → EachIs (fun u d => ∃ v, RelV v u ∧ Rp K H Z v d) us ds
  | _, _, _, .nil, .nil => .nil
  | _, _, _, .cons a b, .cons c d => .cons ⟨_, c, a⟩ (each_of b d)
open PySem.W in
theorem of_each {K : Frg} : ∀ {us : List Value} {ds : List PyData}, EachIs (fun u d => ∃ v, RelV v u ∧ Rp K H Z v d) us ds → ∃ vs, RpA K H Z vs ds ∧ Vals vs us
  | _, _, .nil => ⟨[], .nil, .nil⟩
  | _, _, .cons ⟨v, a, b⟩ c => by
    obtain ⟨vs, h1, h2⟩ := of_each c
    exact ⟨v :: vs, .cons b h1, .cons a h2⟩
open PySem.W in
theorem each_reads (I : Inv X pins σ H s) {us : List Value} {ds : List PyData} (h : EachIs (fun u d => ∃ v, RelV v u ∧ Rp X.K H Z v d) us ds) : EachIs (fun u d => ∃ as, Reads s.heap u d as) us ds :=
  h.mono fun u d ⟨v, a, b⟩ => Rp.reads I d v u b a
open PySem.W in
theorem sort_run {k : Nat} {b : Bool} {kw : List (Str × Value)} (hr : L2H.RoomH k X.A) {vs : List V} {us : List Value} {Q : VK} (I : Inv X pins σ H s) (r : Vals vs us) (h : rNwN X.K (srtN b) vs H Q)
    (hk : ∀ x, Builtin.«list.sort» ⟨[.ref x], kw⟩ = Builtin.«list.sort» ⟨[.ref x], [(Str.ofString "reverse", .bool b)]⟩) (ha1 : ∀ x, argsOk "sorted" ⟨[x], kw⟩) (ha2 : ∀ x, argsOk "list.sort" ⟨[.ref x], kw⟩) :
    wpAny (model X.prog X.w) X.A (call (.builtin "sorted") us kw) (EP X pins σ Q) X.xe s := by
  obtain ⟨Z, ds, ys, hd, hf, ho⟩ := h
  have hu := room_eq hr (show 60 ≤ 60 by decide)
  unfold srtN at hf
  split at hf
  · rename_i d
    obtain ⟨v, rfl, h⟩ := rts1 hd
    split at hf
    · rename_i xs q
      split at hf
      · rename_i hc
        cases hf
        obtain ⟨hal, hs⟩ := sortB_all hc.1
        have fin : ∀ {its : List Value} {ws : List V}, RpA X.K H Z ws xs → Vals ws its → ∀ {T : String} {o : Obj} {n : Nat} {l : Addr}, (T = "list" ∨ T = "tuple") → s.heap.get? l = some o → o.cls = .type T → o.data = .seq its.toArray n →
            wpAny (model X.prog X.w) X.A (call (.builtin "sorted") [.ref l] kw) (EP X pins σ Q) X.xe s := by
          intro its ws ra rv T o n l hT ho' hc' hd'
          have ee := each_of ra rv
          refine sorted_seq (enc := id) (bs := xs) (b := b) hT ho' hc' hd' hk (ha1 _) ha2 ee (each_reads I ee) (by rw [List.map_id]; exact hal) (by rw [List.map_id]; exact hs) (Nat.le_trans hc.2.2 line_lim) (fun d hd => ?_) fun h' p out ep hp kp hat hl eo => ?_
          · have := depthAll_get hc.2.1 d hd
            show X.A.units + 2 + d.depth < cLine
            omega
          · obtain ⟨vs', ra', rv'⟩ := of_each eo
            have hl2 : vs'.length = xs.length := by rw [rv'.length, hl]
            exact ⟨.ref p, upd H p (.lst vs'), I.laid (t' := s.toks) kp hp ⟨by rw [hl2]; exact Nat.le_trans hc.2.2 line_lim, out, ep, rv', hat⟩, rfl, ho p vs' (I.hok.fresh hp) ra'⟩
        unfold seqOf at q
        split at q
        · cases q
          obtain ⟨a, ws, rfl, h1, h2⟩ := h.lst
          obtain ⟨its, rv, hl, _⟩ := I.list h1.sq
          rw [Vals.ref1 r]
          obtain ⟨o, e1, e2, n, e3⟩ := hl.isList
          exact fin h2 rv (.inl rfl) e1 e2 e3
        · cases q
          obtain ⟨a, ws, rfl, h1, h2⟩ := h.tup
          obtain ⟨its, rv, hl, _⟩ := I.tuple h1
          rw [Vals.ref1 r]
          obtain ⟨o, e1, e2, n, e3⟩ := hl
          exact fin h2 rv (.inr rfl) e1 e2 e3
        · cases q
      · cases hf
    · cases hf
  · cases hf
theorem n_sorted {k : Nat} (hr : L2H.RoomH k X.A) : CallR X (.builtin "sorted") (rNwN X.K (srtN false)) := by
  intro pins s σ H xs us Q I r h
  exact sort_run (b := false) (kw := []) hr I r h PySem.W.plain_is_rev (fun _ => args_sorted1 _) fun _ => args_list_sort _
/-- what makes a new list makes data too -/
theorem c_of_n {id : Value} {f : List PyData → Option (List PyData)} (h : CallR X id (rNwN X.K f)) : CallR X id (rN X.K fun ds => (f ds).map .list) := by
  intro pins s σ H xs us Q I r ⟨Z, ds, ys, hz, hd, hf, ho⟩
  dsimp only at hf
  cases e : f ds with
  | none => rw [e] at hf; cases hf
  | some zs =>
    rw [e] at hf
    cases hf
    exact h pins s σ H xs us Q I r ⟨Z, ds, zs, hd, e, fun p vs hn ra => rout_lst hz ho ra p hn⟩
end
def srtF (b : Bool) (ds : List PyData) : Option PyData := (srtN b ds).map .list
section
variable {M : Md} {X : Cx} {B : Tb} {k : Nat} {cs : En → Sto → Rs (List Wv)} {p pos : Pos} {e : Expr} {es : List Expr}
theorem c_sorted (hr : L2H.RoomH k X.A) : CallR X (.builtin "sorted") (rN X.K (srtF false)) := c_of_n (n_sorted hr)
end
end
section
variable [Wtp] [Tbl]
/-! ### calls with keywords -/
def eOpK (f : List PyData → List PyData → Option PyData) (cs ck : En → Sto → Rs (List Wv)) : En → Sto → Rs Wv := fun env st =>
  (cs env st).bind fun ws st1 => (ck env st1).bind fun zs st2 => match looks ws st2, looks zs st2 with
    | some ds, some es => ret1 (f ds es) st2
    | _, _ => .no
@[simp] theorem x_opK (env : En) (st : Sto) (f : List PyData → List PyData → Option PyData) (cs ck : En → Sto → Rs (List Wv)) : eOpK f cs ck env st = ((cs env st).bind fun ws st1 => (ck env st1).bind fun zs st2 => match looks ws st2, looks zs st2 with
    | some ds, some es => ret1 (f ds es) st2
    | _, _ => .no) := rfl
def eOpKN (f : List PyData → List PyData → Option (List PyData)) (cs ck : En → Sto → Rs (List Wv)) : En → Sto → Rs Wv := fun env st =>
  (cs env st).bind fun ws st1 => (ck env st1).bind fun zs st2 => match looks ws st2, looks zs st2 with
    | some ds, some es => newO (f ds es) st2
    | _, _ => .no
@[simp] theorem x_opKN (env : En) (st : Sto) (f : List PyData → List PyData → Option (List PyData)) (cs ck : En → Sto → Rs (List Wv)) : eOpKN f cs ck env st = ((cs env st).bind fun ws st1 => (ck env st1).bind fun zs st2 => match looks ws st2, looks zs st2 with
    | some ds, some es => newO (f ds es) st2
    | _, _ => .no) := rfl
section
variable {M : Md} {X : Cx} {B : Tb} {k : Nat} {σ : L2.St} {H : Hp} {W : WX} {cs ck : En → Sto → Rs (List Wv)} {ca : En → Sto → Rs Wv} {pos p : Pos} {e : Expr} {es : List Expr} {kws : List Keyword}
theorem PK.imp {e : List Keyword} {t t' : TA} (h : PK X e t) (q : ∀ σ H Q, t' σ H Q → t σ H Q) : PK X e t' := ⟨fun pos pins s σ H Q I x => h.run pos pins s σ H Q I (q σ H Q x)⟩
end
/-! ### a comprehension given to a captured name -/
/-! ### min(xs, default=d), max(xs, default=d) -/
open PySem.W in
def bestK (f : PyData → List PyData → PyData) : List PyData → List PyData → Option PyData
  | [d], [e] => match seqOf d with
    | some [] => (match e with
      | .none => some .none
      | .int i => some (.int i)
      | _ => none)
    | some (x :: xs) => if alikeB (x :: xs) = true ∧ PyData.depthAll (x :: xs) ≤ 40 then some (f x xs) else none
    | none => none
  | _, _ => none
end
section
variable [Wtp] [Tbl]
/-! ### best and sorted of alike data -/
open PySem.W in
theorem alikeB_of {P : PyData → Prop} {xs : List PyData} (h : ∀ x ∈ xs, P x) (hp : ∀ x y, P x → P y → alike x y = true) (hn : ∀ x, P x → x ≠ .none) : alikeB xs = true := by
  unfold alikeB
  rw [Bool.and_eq_true, List.all_eq_true, List.all_eq_true]
  refine ⟨fun x hx => List.all_eq_true.mpr fun y hy => hp x y (h x hx) (h y hy), fun x hx => ?_⟩
  have := hn x (h x hx)
  cases x <;> first | rfl | exact absurd rfl this
open PySem.W in
theorem sortB_of {P : PyData → Prop} {xs : List PyData} (h : ∀ x ∈ xs, P x) (hp : ∀ x y, P x → P y → alike x y = true) (hn : (∀ x, P x → ∃ y ys, x = .tuple (y :: ys)) ∨ ∀ x, P x → x ≠ .none ∧ ∀ ys, x ≠ .tuple ys) : sortB xs = true := by
  unfold sortB
  rw [Bool.and_eq_true, List.all_eq_true]
  refine ⟨fun x hx => List.all_eq_true.mpr fun y hy => hp x y (h x hx) (h y hy), ?_⟩
  rw [Bool.or_eq_true, List.all_eq_true, List.all_eq_true]
  rcases hn with hn | hn
  · refine .inl fun x hx => ?_
    obtain ⟨y, ys, rfl⟩ := hn x (h x hx)
    rfl
  · refine .inr fun x hx => ?_
    obtain ⟨h1, h2⟩ := hn x (h x hx)
    cases x <;> first | rfl | exact absurd rfl h1 | exact absurd rfl (h2 _)
theorem best_ok {f : PyData → List PyData → PyData} {x : PyData} {xs : List PyData} (h : alikeB (x :: xs) = true) (hd : ∀ y ∈ x :: xs, y.depth ≤ 40) : bestF f [.list (x :: xs)] = some (f x xs) := by
  have hd' := depthAll_le hd
  unfold bestF seqOf
  dsimp only
  rw [if_pos ⟨h, hd'⟩]
@[simp] theorem bestK_nil_n (f : PyData → List PyData → PyData) : bestK f [.list []] [.none] = some .none := rfl
@[simp] theorem bestK_nil_i (f : PyData → List PyData → PyData) (i : Int) : bestK f [.list []] [.int i] = some (.int i) := rfl
@[simp] theorem bestK_nilT_n (f : PyData → List PyData → PyData) : bestK f [.tuple []] [.none] = some .none := rfl
@[simp] theorem bestK_nilT_i (f : PyData → List PyData → PyData) (i : Int) : bestK f [.tuple []] [.int i] = some (.int i) := rfl
theorem srt_ok {b : Bool} {xs : List PyData} (h : sortB xs = true) (hd : ∀ y ∈ xs, y.depth ≤ 40) (hl : xs.length ≤ 1000000) : srtN b [.list xs] = some (sortD b xs) := by
  have hd' := depthAll_le hd
  unfold srtN seqOf
  dsimp only
  rw [if_pos ⟨h, hd', hl⟩]
theorem srtF_of {b : Bool} {d : PyData} {ys : List PyData} (h : srtN b [d] = some ys) : srtF b [d] = some (.list ys) := by unfold srtF; rw [h]; rfl
/-- the same order on what the data are made of -/
def sortT {α : Type} (b : Bool) (enc : α → PyData) (xs : List α) : List α := xs.mergeSort (PySem.W.dataLe b enc)
theorem sortD_map {α : Type} (b : Bool) (enc : α → PyData) (xs : List α) : sortD b (xs.map enc) = (sortT b enc xs).map enc := by
  unfold sortD sortT
  rw [List.map_mergeSort (s := PySem.W.dataLe b id)]
  intro x _ y _
  rfl
theorem sortT_perm {α : Type} (b : Bool) (enc : α → PyData) (xs : List α) : (sortT b enc xs).Perm xs := List.mergeSort_perm _ _
theorem sortT_mem {α : Type} {b : Bool} {enc : α → PyData} {xs : List α} {x : α} : x ∈ sortT b enc xs ↔ x ∈ xs := (sortT_perm b enc xs).mem_iff
theorem sortT_len {α : Type} (b : Bool) (enc : α → PyData) (xs : List α) : (sortT b enc xs).length = xs.length := (sortT_perm b enc xs).length_eq
@[simp] theorem sortT_nil {α : Type} (b : Bool) (enc : α → PyData) : sortT b enc [] = [] := by simp [sortT]
/-! ### ints -/
def IsI (d : PyData) : Prop := ∃ i : Int, d = .int i
theorem isI_alike (x y : PyData) (h : IsI x) (k : IsI y) : PySem.W.alike x y = true := by obtain ⟨i, rfl⟩ := h; obtain ⟨j, rfl⟩ := k; rfl
theorem isI_nn (x : PyData) (h : IsI x) : x ≠ .none := by obtain ⟨i, rfl⟩ := h; exact fun z => nomatch z
@[simp] theorem depth_int (i : Int) : (PyData.int i).depth = 0 := rfl
@[simp] theorem depth_pair (i j : Int) : (PyData.tuple [.int i, .int j]).depth = 1 := rfl
theorem ints_I (ns : List Int) : ∀ x ∈ ns.map PyData.int, IsI x := fun x hx => by obtain ⟨i, _, rfl⟩ := List.mem_map.mp hx; exact ⟨i, rfl⟩
theorem isI_d {x : PyData} (h : IsI x) : x.depth ≤ 40 := by obtain ⟨i, rfl⟩ := h; exact Nat.zero_le _
/-- the least, the greatest of ints -/
def mnI (x : Int) (xs : List Int) : Int := xs.foldl (fun a y => if y < a then y else a) x
def mxI (x : Int) (xs : List Int) : Int := xs.foldl (fun a y => if a < y then y else a) x
theorem dataLt_i (i j : Int) : PySem.W.dataLt (.int i) (.int j) = decide (i < j) := by
  have h := congrFun (congrFun (PySem.W.dataLe_int (fun x : Int => x)) j) i
  have h2 : PySem.W.dataLe false (fun b : Int => PyData.int b) j i = !PySem.W.dataLt (.int i) (.int j) := rfl
  rw [h2] at h
  have : (!PySem.W.dataLt (.int i) (.int j)) = decide (j ≤ i) := h
  by_cases q : i < j
  · have e : decide (j ≤ i) = false := by simp; omega
    rw [e] at this
    simpa [q] using this
  · have e : decide (j ≤ i) = true := by simp; omega
    rw [e] at this
    simpa [q] using this
theorem minD_int : ∀ (xs : List Int) (x : Int), PySem.W.minD (.int x) (xs.map .int) = .int (mnI x xs)
  | [], x => rfl
  | y :: ys, x => by
    show PySem.W.minD (if PySem.W.dataLt (.int y) (.int x) then .int y else .int x) (ys.map .int) = .int (mnI (if y < x then y else x) ys)
    rw [dataLt_i]
    by_cases q : y < x
    · rw [if_pos (by simpa using q), if_pos q]; exact minD_int ys y
    · rw [if_neg (by simpa using q), if_neg q]; exact minD_int ys x
theorem maxD_int : ∀ (xs : List Int) (x : Int), PySem.W.maxD (.int x) (xs.map .int) = .int (mxI x xs)
  | [], x => rfl
  | y :: ys, x => by
    show PySem.W.maxD (if PySem.W.dataLt (.int x) (.int y) then .int y else .int x) (ys.map .int) = .int (mxI (if x < y then y else x) ys)
    rw [dataLt_i]
    by_cases q : x < y
    · rw [if_pos (by simpa using q), if_pos q]; exact maxD_int ys y
    · rw [if_neg (by simpa using q), if_neg q]; exact maxD_int ys x
theorem mxI_mem : ∀ (xs : List Int) (x : Int), mxI x xs ∈ x :: xs
  | [], x => by simp [mxI]
  | y :: ys, x => by
    have h := mxI_mem ys (if x < y then y else x)
    have e : mxI x (y :: ys) = mxI (if x < y then y else x) ys := rfl
    rw [e]
    rcases List.mem_cons.mp h with h | h
    · rw [h]; split <;> simp
    · simp [h]
@[simp] theorem o_min_ints (x : Int) (xs : List Int) : bestF PySem.W.minD [.list ((x :: xs).map .int)] = some (.int (mnI x xs)) := by
  have hI := ints_I (x :: xs)
  rw [List.map_cons] at hI ⊢
  rw [best_ok (alikeB_of hI isI_alike isI_nn) fun y hy => isI_d (hI y hy), minD_int]
@[simp] theorem o_max_ints (x : Int) (xs : List Int) : bestF PySem.W.maxD [.list ((x :: xs).map .int)] = some (.int (mxI x xs)) := by
  have hI := ints_I (x :: xs)
  rw [List.map_cons] at hI ⊢
  rw [best_ok (alikeB_of hI isI_alike isI_nn) fun y hy => isI_d (hI y hy), maxD_int]
theorem looks_l1 {i : Nat} {st : Sto} {xs : List PyData} (h : st[i]? = some (.lst xs)) : looks [.r i] st = some [.list xs] := by
  unfold looks
  rw [look_l h]
  rfl
/-! ### lists of the store as sources -/
theorem srcW_dt (xs : List PyData) (st : Sto) : srcW (.d (.tuple xs)) st = .ok ⟨xs, []⟩ st := rfl
/-! ### the same shown twice is the same -/
theorem ne_self {d : PyData} {s : Str} (h : reprF [d] = some (.str s)) : neD (.str s) (.str s) = some (.bool false) := by rw [o_ne_s]; simp
end
section
variable [Wtp] [Tbl]
/-! ### list(range(n)), tuple(range(n)) -/
def rgLW (tup : Bool) (w : Wv) (st : Sto) : Rs Wv := match w with
  | .d (.int n) => if n ≤ 1000000 ∧ -1000000 ≤ n then .ok (.d (if tup then .tuple (rangeD 0 n.toNat) else .list (rangeD 0 n.toNat))) st else .no
  | _ => .no
def eRgL (tup : Bool) (c : En → Sto → Rs Wv) : En → Sto → Rs Wv := fun env st => (c env st).bind (rgLW tup)
@[simp] theorem x_rgL (env : En) (st : Sto) (t : Bool) (c : En → Sto → Rs Wv) : eRgL t c env st = (c env st).bind (rgLW t) := rfl
/-! ### methods of lists that read -/
def isLd (st : Sto) (w : Wv) : Bool := match look st w with
  | some (.list _) => true
  | _ => false
@[simp] theorem isLd_d (xs : List PyData) (st : Sto) : isLd st (.d (.list xs)) = true := rfl
def eMd (f : PyData → List PyData → Option PyData) (co : En → Sto → Rs Wv) (cs : En → Sto → Rs (List Wv)) : En → Sto → Rs Wv := fun env st => (co env st).bind fun w st1 => if isLd st1 w = true then (cs env st1).bind fun ws st2 => match look st2 w, looks ws st2 with
    | some d, some ds => ret1 (f d ds) st2
    | _, _ => .no
  else .no
@[simp] theorem x_md (env : En) (st : Sto) (f : PyData → List PyData → Option PyData) (co : En → Sto → Rs Wv) (cs : En → Sto → Rs (List Wv)) : eMd f co cs env st = ((co env st).bind fun w st1 => if isLd st1 w = true then (cs env st1).bind fun ws st2 => match look st2 w, looks ws st2 with
    | some d, some ds => ret1 (f d ds) st2
    | _, _ => .no
  else .no) := rfl
def rMd (K : Frg) (f : PyData → List PyData → Option PyData) : V → List V → Hp → VK → Prop := fun v vs H Q => ∃ Z d ds r, (∀ a, H a = none → Z a) ∧ RT K H Z v d ∧ RTs K H Z vs ds ∧ f d ds = some r ∧ rOut K H Z r Q
section
variable {M : Md} {X : Cx} {B : Tb} {k : Nat} {pins : List (Addr × Obj)} {σ : L2.St} {H : Hp} {s : Shared} {W : WX} {pos apos : Pos} {o e : Expr} {es : List Expr} {co : En → Sto → Rs Wv} {cs : En → Sto → Rs (List Wv)}
theorem te_md (f : PyData → List PyData → Option PyData) {Q : VK} (h : tE X W (eMd f co cs) σ H Q) : tBM X.K "list" (rMd X.K f) (tE X W co) (tA X W cs) σ H Q := by
  obtain ⟨m, env, st, S, R, hp⟩ := h
  unfold eMd at hp
  rw [Rs.post_bind] at hp
  refine ⟨m, env, st, S, R, Rs.post_mono hp (fun w st1 q1 v H1 m1 f1 S1 r1 => ?_) fun _ _ q => q⟩
  split at q1
  · rename_i hw
    rw [Rs.post_bind] at q1
    have ty : tyV X.K "list" v H1 := by
      unfold isLd at hw
      split at hw
      · rename_i xs e1
        obtain ⟨a, vs, rfl, h1, h2⟩ := (look_rt S1 r1 e1).lst
        exact .inl ⟨rfl, vs, h1.sq⟩
      · cases hw
    refine ⟨ty, m1, env, st1, S1, R.mv f1, Rs.post_mono q1 (fun ws st2 q2 vs H2 m2 f2 S2 r2 => ?_) fun _ _ z => okX.tr f1 z⟩
    split at q2
    · rename_i d ds e1 e2
      obtain ⟨r, e3, q⟩ := ret1_post q2
      exact ⟨_, d, ds, r, fun a => S2.fresh, look_rt S2 (r1.mv f2) e1, looks_rt S2 r2 e2, e3, okE.out (f1.trans f2) S2 q⟩
    · exact q2.elim
  · exact q1.elim
/-- l.count(x) -/
def cntD : PyData → List PyData → Option PyData
  | .list xs, [d] => if PyData.plainAll xs = true ∧ d.plain = true ∧ min (PyData.depthAll xs) d.depth ≤ 40 then some (.int ((xs.countP fun y => PyData.eqv y d : Nat))) else none
  | _, _ => none
theorem m_count (hr : L2H.RoomH k X.A) : MtR X "list.count" (rMd X.K cntD) := by
  intro pins s σ H x xs v us Q I rx rxs ⟨Z, d, ds, r, hz, hd, hds, hf, ho⟩
  have hu := room_eq hr (show 60 ≤ 60 by decide)
  unfold cntD at hf
  split at hf
  · rename_i ys y
    split at hf
    · rename_i hc
      cases hf
      obtain ⟨a, vs, rfl, h1, h2⟩ := hd.lst
      obtain ⟨z, rfl, h'⟩ := rts1 hds
      obtain ⟨u', rfl, rz'⟩ := vals1 rxs
      cases rx
      obtain ⟨its, rv, hl, _⟩ := I.list h1.sq
      obtain ⟨as, rd⟩ := RpA.reads I _ vs its h2 rv
      obtain ⟨bs, rb⟩ := Inv.rt I h' rz'
      exact PySem.SeqAt.count_list_data hl.isList (by simpa using rd) rb hc.1 hc.2.1 (by omega) ⟨.int _, H, I.tok _, ⟨_, rfl⟩, rout_here ho (.int _)⟩
    · cases hf
  · cases hf
theorem de_count (c : Cxt M X B k) (ho : DE X o co) (ha : DA X (e :: es) cs)
    (hbase : attributeBase o "count" X.env (eval o X.env) = eval o X.env := by rfl)
    (hfew : ((backTo pos (starEach (e :: es) X.env)).all (fun x => !x.1) && (backToKw pos (keywordEach [] X.env)).all (fun x => x.1.isSome)
      && decide ((e :: es).length + ([] : List Keyword).length + (if ([] : List Keyword).isEmpty then 0 else 1) < 30)) = true := by rfl)
    (hline : (apos.endLine == pos.line) = true := by rfl) (hs : starEach (e :: es) X.env = (false, eval e X.env) :: starEach es X.env := by rfl) (hplain : (backTo pos (starEach es X.env)).any (·.1) = false := by rfl) :
    DE X (.Call (.Attribute o "count" apos) (e :: es) [] pos) (eMd cntD co cs) :=
  ⟨fun W tk => PE.imp (pe_bm PySem.F.plainAttrs_list PySem.F.slot_list_count PySem.F.type_list_count (m_count c.roomH) (ho.pe W tk) (ha.pa W tk) hbase hfew hline hs hplain) fun σ H Q => te_md cntD⟩
end
end
section
variable [Wtp] [Tbl]
/-! ### data of a type -/
open PySem.W (Datum DatumOrd Tup minOf maxOf)
section
variable {α : Type} [DecidableEq α]
section
variable [Datum α]
theorem cmpOk_d (x y : α) (h : Datum.depth α ≤ 40) : cmpOk (Datum.toD x) (Datum.toD y) = true := by
  unfold cmpOk
  have := Datum.depth_le x
  simp only [Datum.plain, Bool.true_and, decide_eq_true_eq]
  exact Nat.le_trans (Nat.min_le_left _ _) (by omega)
theorem q_ne (x y : α) (h : Datum.depth α ≤ 40 := by decide) : neD (Datum.toD x) (Datum.toD y) = some (.bool (!decide (x = y))) := by
  unfold neD
  rw [if_pos (cmpOk_d x y h), Datum.eqv]
end
section
variable [DatumOrd α]
theorem alikeB_d (xs : List α) : alikeB (xs.map Datum.toD) = true := alikeB_of (P := fun d => ∃ x : α, d = Datum.toD x) (fun d hd => by obtain ⟨x, _, rfl⟩ := List.mem_map.mp hd; exact ⟨x, rfl⟩) (fun _ _ ⟨x, hx⟩ ⟨y, hy⟩ => by rw [hx, hy]; exact DatumOrd.alike x y) fun _ ⟨x, hx⟩ => by rw [hx]; exact DatumOrd.notNone x
theorem dep_d (xs : List α) (h : Datum.depth α ≤ 40) : ∀ d ∈ xs.map Datum.toD, PyData.depth d ≤ 40 := fun d hd => by
  obtain ⟨x, _, rfl⟩ := List.mem_map.mp hd
  exact Nat.le_trans (Datum.depth_le x) h
theorem q_min (x : α) (xs : List α) (h : Datum.depth α ≤ 40 := by decide) : bestF PySem.W.minD [.list ((x :: xs).map Datum.toD)] = some (Datum.toD (minOf x xs)) := by
  have h1 := alikeB_d (x :: xs)
  have h2 := dep_d (x :: xs) h
  rw [List.map_cons] at h1 h2 ⊢
  rw [best_ok h1 h2, PySem.W.minD_map]
/-- the first of the least, of a list that may be empty -/
def leastOf : List α → Option α
  | [] => none
  | x :: xs => some (minOf x xs)
theorem q_least {xs : List α} {z : α} (e : leastOf xs = some z) (h : Datum.depth α ≤ 40 := by decide) : bestF PySem.W.minD [.list (xs.map Datum.toD)] = some (Datum.toD z) := by
  cases xs with
  | nil => cases e
  | cons x xs => cases e; exact q_min x xs h
theorem minOf_mem : ∀ (xs : List α) (x : α), minOf x xs ∈ x :: xs
  | [], x => by simp [minOf]
  | y :: ys, x => by
    have h := minOf_mem ys (if DatumOrd.lt y x = true then y else x)
    have e : minOf x (y :: ys) = minOf (if DatumOrd.lt y x = true then y else x) ys := rfl
    rw [e]
    rcases List.mem_cons.mp h with h | h
    · rw [h]; split <;> simp
    · simp [h]
theorem leastOf_mem {xs : List α} {z : α} (e : leastOf xs = some z) : z ∈ xs := by
  cases xs with
  | nil => cases e
  | cons x xs => cases e; exact minOf_mem xs x
theorem leastOf_some {xs : List α} (h : xs ≠ []) : ∃ z, leastOf xs = some z := by
  cases xs with
  | nil => exact absurd rfl h
  | cons x xs => exact ⟨_, rfl⟩
end
end
theorem q_srt_pairs {α β : Type} [DecidableEq α] [DatumOrd α] [DecidableEq β] [DatumOrd β] {b : Bool} (ps : List (α × β)) (hl : ps.length ≤ 1000000) (h : Datum.depth (α × β) ≤ 40 := by decide) : srtN b [.list (ps.map Datum.toD)] = some ((sortT b Datum.toD ps).map Datum.toD) := by
  rw [srt_ok (sortB_of (P := fun d => ∃ x : α × β, d = Datum.toD x) (fun d hd => by obtain ⟨x, _, rfl⟩ := List.mem_map.mp hd; exact ⟨x, rfl⟩) (fun _ _ ⟨x, hx⟩ ⟨y, hy⟩ => by rw [hx, hy]; exact DatumOrd.alike x y) (.inl fun _ ⟨x, hx⟩ => ⟨_, _, hx⟩)) (dep_d ps h) (by simpa using hl), sortD_map]
/-! ### ints in order -/
/-! ### a list, wherever -/
def LsIn (st : Sto) (w : Wv) (xs : List PyData) : Prop := w = .d (.list xs) ∨ ∃ i, w = .r i ∧ st[i]? = some (.lst xs)
section
variable {st : Sto} {w : Wv} {xs : List PyData}
theorem LsIn.keep (h : LsIn st w xs) {st' : Sto} (q : ∀ i, i < st.length → st'[i]? = st[i]?) : LsIn st' w xs := by
  rcases h with rfl | ⟨i, rfl, e⟩
  · exact .inl rfl
  · exact .inr ⟨i, rfl, by rw [q i (List.getElem?_eq_some_iff.mp e).1]; exact e⟩
theorem LsIn.app (h : LsIn st w xs) (l : Sto) : LsIn (st ++ l) w xs := h.keep fun i hi => List.getElem?_append_left hi
end
/-! ### x is True -/
end
section
variable [Wtp] [Tbl]
/-! ## dicts of the store that are walked: pinned from there on -/
def frzV (w : Wv) (st1 : Sto) : Rs Wv := match w with
  | .r i => match st1[i]? with
    | some (.dct es) => .ok (.d (.dict es)) (st1.set i (.lkd es))
    | some (.dtt es) => .ok (.d (.dict es)) (st1.set i (.lkd es))
    | some (.lkd es) => .ok (.d (.dict es)) st1
    | some (.lst xs) => .ok (.d (.list xs)) (st1.set i (.lkl xs))
    | some (.lkl xs) => .ok (.d (.list xs)) st1
    | _ => .ok (.r i) st1
  | w => .ok w st1
def eFrz (c : En → Sto → Rs Wv) : En → Sto → Rs Wv := fun env st => (c env st).bind frzV
@[simp] theorem x_frz (env : En) (st : Sto) (c : En → Sto → Rs Wv) : eFrz c env st = (c env st).bind frzV := rfl
@[simp] theorem frzV_d (x : PyData) (st : Sto) : frzV (.d x) st = .ok (.d x) st := rfl
theorem frzV_k {i : Nat} {st : Sto} {es : List (PyData × PyData)} (h : st[i]? = some (.dct es)) : frzV (.r i) st = .ok (.d (.dict es)) (st.set i (.lkd es)) := by unfold frzV; simp [h]
theorem frzV_t {i : Nat} {st : Sto} {es : List (PyData × PyData)} (h : st[i]? = some (.dtt es)) : frzV (.r i) st = .ok (.d (.dict es)) (st.set i (.lkd es)) := by unfold frzV; simp [h]
section
variable {M : Md} {X : Cx} {B : Tb} {k : Nat} {pins : List (Addr × Obj)} {σ : L2.St} {H : Hp} {s : Shared} {m : Mp} {env : En} {st : Sto} {W : WX} {pos apos p5 : Pos} {o e f : Expr} {co ce cf : En → Sto → Rs Wv}
theorem pe_freezeC {e : Expr} {t : TE} (h : PE X e t) : PE X e (fun σ H Q => t σ H fun v H1 => Q v H1 ∨ (∃ a u, v = .ref a ∧ H1 a = some u ∧ ((∃ ks, u = .dK ks) ∨ (∃ ks, u = .dT ks) ∨ ∃ xs, u = .lst xs) ∧ ∀ o, Q v (upd H1 a (.frz o u)))) := ⟨fun pins s σ H Q I q =>
  thn (h.run pins s σ H _ I q) fun u s1 ⟨v, H1, I1, rv, q⟩ => by
    rcases q with q | ⟨a, w, ev, ha, hw, q1⟩
    · exact ⟨v, _, I1, rv, q⟩
    · rcases hw with hw | hw | ⟨xs, rfl⟩
      · obtain ⟨o, J⟩ := Inv.freeze I1 ha (.inl hw)
        exact ⟨v, _, J, rv, q1 o⟩
      · obtain ⟨o, J⟩ := Inv.freeze I1 ha (.inr hw)
        exact ⟨v, _, J, rv, q1 o⟩
      · obtain ⟨o, J⟩ := Inv.freezeL I1 ha
        exact ⟨v, _, J, rv, q1 o⟩⟩
theorem de_frz (h : DE X o co) : DE X o (eFrz co) := by
  refine ⟨fun W tk => PE.imp (pe_freezeC (h.pe W tk)) fun σ H Q ⟨m, env, st, S, R, hp⟩ => ?_⟩
  unfold eFrz at hp
  rw [Rs.post_bind] at hp
  refine ⟨m, env, st, S, R, Rs.post_mono hp (fun w st1 q v H1 m1 f1 S1 r1 => ?_) fun _ _ q => q⟩
  have plain : ∀ w', (Rs.ok w' st1 : Rs Wv).post (okE X m st.length H Q) (okX X W m st.length H σ) → RW X.K H1 m1 st1.length v w' → Q v H1 := fun w' q r => q v H1 m1 f1 S1 r
  cases w with
  | d x => exact .inl (plain _ q r1)
  | x a c d => exact .inl (plain _ q r1)
  | r i =>
    unfold frzV at q
    dsimp only at q
    cases e1 : st1[i]? with
    | none => rw [e1] at q; exact .inl (plain _ q r1)
    | some ob =>
      have hi : i < st1.length := (List.getElem?_eq_some_iff.mp e1).1
      rw [e1] at q
      cases ob with
      | lkl xs =>
        refine .inl (plain (.d (.list xs)) q ?_)
        show Rp X.K H1 (Off m1 st1.length) v (.list xs)
        rw [r1.2]
        exact FzL.rp (S1.ob i _ e1)
      | lst xs =>
        obtain ⟨ks, h1, h2⟩ := S1.ob i _ e1
        have f2 : ∀ o, Fol m1 st1.length H1 m1 st1.length (upd H1 (m1.ix i) (.frz o (.lst ks))) := fun o => .wr hi h1 (.inl ⟨_, rfl⟩) (by exact fun _ z => nomatch z)
        have hl : (st1.set i (Ob.lkl xs)).length = st1.length := List.length_set
        refine .inr ⟨_, _, r1.2, h1, .inr (.inr ⟨ks, rfl⟩), fun o => ?_⟩
        have fz : FzL X.K (upd H1 (m1.ix i) (.frz o (.lst ks))) (Off m1 st1.length) (m1.ix i) xs := ⟨o, ks, upd_same, h2.mv (f2 o).kp⟩
        refine q v _ m1 (by rw [hl]; exact f1.trans (f2 o)) (S1.wr hi h1 (.inl ⟨_, rfl⟩) fz (by exact fun _ z => nomatch z)) ?_
        rw [hl, r1.2]
        exact fz.rp
      | ins C es => exact .inl (plain _ q r1)
      | lkd es =>
        refine .inl (plain (.d (.dict es)) q ?_)
        show Rp X.K H1 (Off m1 st1.length) v (.dict es)
        rw [r1.2]
        exact S1.ob i _ e1
      | dct es =>
        obtain ⟨ks, h1, h2⟩ := S1.ob i _ e1
        have f2 : ∀ o, Fol m1 st1.length H1 m1 st1.length (upd H1 (m1.ix i) (.frz o (.dK ks))) := fun o => .wr hi h1 (.inr (.inl ⟨_, rfl⟩)) (by exact fun _ z => nomatch z)
        have hl : (st1.set i (Ob.lkd es)).length = st1.length := List.length_set
        refine .inr ⟨_, _, r1.2, h1, .inl ⟨ks, rfl⟩, fun o => ?_⟩
        have rp : Rp X.K (upd H1 (m1.ix i) (.frz o (.dK ks))) (Off m1 st1.length) (.ref (m1.ix i)) (.dict es) := .dic upd_same (RpK.kp (f2 o).kp _ _ h2)
        refine q v _ m1 (by rw [hl]; exact f1.trans (f2 o)) (S1.wr hi h1 (.inr (.inl ⟨_, rfl⟩)) rp (by exact fun _ z => nomatch z)) ?_
        rw [hl, r1.2]
        exact rp
      | dtt es =>
        obtain ⟨ks, h1, h2⟩ := S1.ob i _ e1
        have f2 : ∀ o, Fol m1 st1.length H1 m1 st1.length (upd H1 (m1.ix i) (.frz o (.dT ks))) := fun o => .wr hi h1 (.inr (.inr ⟨_, rfl⟩)) (by exact fun _ z => nomatch z)
        have hl : (st1.set i (Ob.lkd es)).length = st1.length := List.length_set
        refine .inr ⟨_, _, r1.2, h1, .inr (.inl ⟨ks, rfl⟩), fun o => ?_⟩
        have rp : Rp X.K (upd H1 (m1.ix i) (.frz o (.dT ks))) (Off m1 st1.length) (.ref (m1.ix i)) (.dict es) := .dit upd_same (RpT.kp (f2 o).kp _ _ h2)
        refine q v _ m1 (by rw [hl]; exact f1.trans (f2 o)) (S1.wr hi h1 (.inr (.inr ⟨_, rfl⟩)) rp (by exact fun _ z => nomatch z)) ?_
        rw [hl, r1.2]
        exact rp
/-! ## d.get(k), d.get(k, x) -/
/-- what stands at a key -/
def getO (d c : PyData) : Option (Option PyData) := match d with
  | .dict es => match keyD c with
    | some q => if kindK es = true then some (dLook es q) else none
    | none => match tkD c with
      | some q => if kindT es = true then some (dLookT es q) else none
      | none => none
  | _ => none
def isDk (st : Sto) (w : Wv) : Bool := match look st w with
  | some (.dict _) => true
  | _ => false
@[simp] theorem isDk_d (es : List (PyData × PyData)) (st : Sto) : isDk st (.d (.dict es)) = true := rfl
def eGet1 (co ce : En → Sto → Rs Wv) : En → Sto → Rs Wv := fun env st => (co env st).bind fun w st1 => if isDk st1 w = true then (ce env st1).bind fun j st2 => look1 w st2 fun d => look1 j st2 fun c => ret1 ((getO d c).map fun o => o.getD .none) st2 else .no
def eGet2 (co ce cf : En → Sto → Rs Wv) : En → Sto → Rs Wv := fun env st => (co env st).bind fun w st1 => if isDk st1 w = true then (ce env st1).bind fun j st2 => (cf env st2).bind fun y st3 => look1 w st3 fun d => look1 j st3 fun c => (match y with | .d z => ret1 ((getO d c).map fun o => o.getD z) st3 | _ => .no) else .no
@[simp] theorem x_get1 (env : En) (st : Sto) (co ce : En → Sto → Rs Wv) : eGet1 co ce env st = ((co env st).bind fun w st1 => if isDk st1 w = true then (ce env st1).bind fun j st2 => look1 w st2 fun d => look1 j st2 fun c => ret1 ((getO d c).map fun o => o.getD .none) st2 else .no) := rfl
@[simp] theorem x_get2 (env : En) (st : Sto) (co ce cf : En → Sto → Rs Wv) : eGet2 co ce cf env st = ((co env st).bind fun w st1 => if isDk st1 w = true then (ce env st1).bind fun j st2 => (cf env st2).bind fun y st3 => look1 w st3 fun d => look1 j st3 fun c => (match y with | .d z => ret1 ((getO d c).map fun o => o.getD z) st3 | _ => .no) else .no) := rfl
theorem DkT.isD {K : Frg} {Z : Addr → Prop} {a : Addr} {es : List (PyData × PyData)} (h : DkT K H Z a es) : L2.IsD H a := by
  rcases h with ⟨ks, h1, _⟩ | ⟨ks, h1, _⟩
  · exact .inl ⟨_, h1⟩
  · exact .inr ⟨_, h1⟩
/-! ## str of an int, dict of a dict -/
def dcpF : List PyData → Option (List (PyData × PyData))
  | [.dict es] => if kindK es = true ∧ es ≠ [] then some es else none
  | _ => none
def eDcp (cs : En → Sto → Rs (List Wv)) : En → Sto → Rs Wv := fun env st => (cs env st).bind fun ws st1 => match looks ws st1 with
  | some ds => match dcpF ds with
    | some es => .ok (.r st1.length) (st1 ++ [.dct es])
    | none => .no
  | none => .no
@[simp] theorem x_dcp (env : En) (st : Sto) (cs : En → Sto → Rs (List Wv)) : eDcp cs env st = (cs env st).bind fun ws st1 => match looks ws st1 with
  | some ds => match dcpF ds with
    | some es => .ok (.r st1.length) (st1 ++ [.dct es])
    | none => .no
  | none => .no := rfl
/-! ## list(d): a dict's keys -/
end
end
section
variable [Wtp] [Tbl]
/-! ## xs.clear() -/
section
variable {M : Md} {X : Cx} {B : Tb} {k : Nat} {pins : List (Addr × Obj)} {σ : L2.St} {H : Hp} {s : Shared} {m : Mp} {env : En} {st : Sto} {W : WX} {pos apos p5 : Pos} {o e f : Expr} {co ce cf : En → Sto → Rs Wv} {cs : En → Sto → Rs (List Wv)}
/-! ## x[i], y[j] = a, b -/
noncomputable def swpW (o1 i1 o2 i2 : En → Sto → Rs Wv) (env : En) (ws : List Wv) (st1 : Sto) : SR := match ws with
  | [.d x, .d y] => (o1 env st1).sb fun w1 st2 => (i1 env st2).sb fun j1 st3 => match setW w1 j1 x st3 with
    | some st4 => (o2 env st4).sb fun w2 st5 => (i2 env st5).sb fun j2 st6 => match setW w2 j2 y st6 with
      | some st7 => .nx env st7
      | none => .no
    | none => .no
  | _ => .no
noncomputable def sSwp (o1 i1 o2 i2 : En → Sto → Rs Wv) (cs : En → Sto → Rs (List Wv)) : En → Sto → SR := fun env st => (cs env st).sb (swpW o1 i1 o2 i2 env)
@[simp] theorem x_swp (o1 i1 o2 i2 : En → Sto → Rs Wv) (cs : En → Sto → Rs (List Wv)) (env : En) (st : Sto) : sSwp o1 i1 o2 i2 cs env st = (cs env st).sb (swpW o1 i1 o2 i2 env) := rfl
end
/-! ## dict(xs) of a list of pairs, the keys tuples -/
open Classical in
noncomputable def prsD : List PyData → Option (List (PyData × PyData))
  | [] => some []
  | .tuple [c, d] :: r => match prsD r with
    | some es => if (tkD c).isSome = true ∧ NoW c then some ((c, d) :: es) else none
    | none => none
  | _ :: _ => none
def dctT (es : List (PyData × PyData)) : List (PyData × PyData) := es.foldl (fun acc p => dPutT acc ((tkD p.1).getD []) p.1 p.2) []
noncomputable def dprW (ws : List Wv) (st1 : Sto) : Rs Wv := match looks ws st1 with
  | some [.list ds] => match prsD ds with
    | some es => .ok (.r st1.length) (st1 ++ [.dtt (dctT es)])
    | none => .no
  | _ => .no
noncomputable def eDpr (cs : En → Sto → Rs (List Wv)) : En → Sto → Rs Wv := fun env st => (cs env st).bind dprW
@[simp] theorem x_dpr (env : En) (st : Sto) (cs : En → Sto → Rs (List Wv)) : eDpr cs env st = (cs env st).bind dprW := rfl
end
section
variable [Wtp] [Tbl]
/-! ## sorted(xs, key=len) of a list of tuples -/
def lenK : PyData → Nat
  | .tuple xs => xs.length
  | _ => 0
def isTpD : PyData → Bool
  | .tuple _ => true
  | _ => false
def slnF : PyData → Option PyData
  | .list xs => if xs.all isTpD = true ∧ xs.length ≤ 1000000 then some (.list (xs.mergeSort fun a b => decide (lenK a ≤ lenK b))) else none
  | _ => none
def eSln (co : En → Sto → Rs Wv) : En → Sto → Rs Wv := fun env st => (co env st).bind fun w st1 => look1 w st1 fun d => ret1 (slnF d) st1
@[simp] theorem x_sln (env : En) (st : Sto) (co : En → Sto → Rs Wv) : eSln co env st = (co env st).bind fun w st1 => look1 w st1 fun d => ret1 (slnF d) st1 := rfl
/-! ## list(d.items()) of a dict with tuple keys -/
def pairsD (es : List (PyData × PyData)) : List PyData := es.map fun e => .tuple [e.1, e.2]
def litF : PyData → Option PyData
  | .dict es => if kindT es = true ∧ es.length ≤ 1000000 then some (.list (pairsD es)) else none
  | _ => none
def eLit (co : En → Sto → Rs Wv) : En → Sto → Rs Wv := fun env st => (co env st).bind fun w st1 => look1 w st1 fun d => ret1 (litF d) st1
@[simp] theorem x_lit (env : En) (st : Sto) (co : En → Sto → Rs Wv) : eLit co env st = (co env st).bind fun w st1 => look1 w st1 fun d => ret1 (litF d) st1 := rfl
/-! ## 1 << j, i >> j, i & 1 -/
end
section
variable [Wtp] [Tbl]
/-! ## raise of a class without own __init__ -/
def sRaise (x : Str) : En → Sto → SR := fun _ st => .ex ⟨x, []⟩ st
@[simp] theorem x_raise (x : Str) (env : En) (st : Sto) : sRaise x env st = .ex ⟨x, []⟩ st := rfl
section
variable {M : Md} {X : Cx} {B : Tb} {k : Nat} {pos p p2 p3 apos : Pos}
/-! ## a def called where an exception is handled -/
section
variable {ea C : Addr} {xn : Str} {d : Option Addr}
/-- isinstance(e, c) -/
def xHas (ea : Addr) (xn : Str) (d : Option Addr) (w : Wv) : Bool := match w with
  | .x a c p => decide (a = ea ∧ c = xn ∧ p.map (·.1) = d)
  | _ => false
def eIsx (ea : Addr) (xn : Str) (d : Option Addr) (b : Bool) (i : Nat) : En → Sto → Rs Wv := fun env st => match env[i]? with
  | some (some w) => if xHas ea xn d w = true then .ok (.d (.bool b)) st else .no
  | _ => .no
/-- e.f -/
def eXf (ea : Addr) (xn : Str) (d : Option Addr) (f : Str) (i : Nat) : En → Sto → Rs Wv := fun env st => match env[i]? with
  | some (some (.x a c (some (dd, es)))) => if a = ea ∧ c = xn ∧ some dd = d then match es.lookup f with
    | some y => .ok (.d y) st
    | none => .no
    else .no
  | _ => .no
end
end
end
section
variable [Wtp] [Tbl]
open LamX
/-! ## a lambda handed to the def that asks it -/
section
variable {K : Frg} {H H' : Hp} {m : Mp} {n : Nat}
theorem Fol.ext (h : ExtN H H') : Fol m n H m n H' :=
  ⟨fun a xs q => h a _ q (fun _ z => nomatch z), fun a o u q => h a _ q (fun _ z => nomatch z), fun a o nt q _ => h a o q nt, fun _ _ => rfl, fun i a b => absurd b (by omega), Nat.le_refl _, fun a ⟨o, e, nt⟩ => ⟨o, h a o e nt, nt⟩, fun _ _ => Iff.rfl⟩
theorem Sim.ext {st : Sto} (S : Sim K H m st) (h : ExtN H H') (T : LamX.Tabs Tbl.T H') : Sim K H' m st := by
  have f : Fol m st.length H m st.length H' := .ext h
  refine ⟨fun i o e => ?_, S.inj, fun a z => f.dom a (S.ff a z), S.fi, T⟩
  have q := S.ob i o e
  cases o with
  | lst xs => obtain ⟨vs, h1, h2⟩ := q; exact ⟨vs, h _ _ h1 nt_lst, h2.mv f.kp⟩
  | dct kvs => obtain ⟨vs, h1, h2⟩ := q; exact ⟨vs, h _ _ h1 nt_dK, RpK.kp f.kp _ _ h2⟩
  | dtt kvs => obtain ⟨vs, h1, h2⟩ := q; exact ⟨vs, h _ _ h1 nt_dT, RpT.kp f.kp _ _ h2⟩
  | lkd es => exact Rp.mv q f.kp
  | lkl xs => exact FzL.mv q f.kp
  | ins C es => exact InAt.mv q f.kp fun _ _ e => h _ _ e (fun _ z => nomatch z)
end
end
section
variable [Wtp] [Tbl]
open LamX
/-- x(lambda: body), x told as above -/
def toldD (T : Option Str) (x : PyData) : PyData := match T with
  | none => x
  | some z => .tuple [.str z, x]
@[simp] theorem toldD_none (x : PyData) : toldD none x = x := rfl
@[simp] theorem toldD_some (z : Str) (x : PyData) : toldD (some z) x = .tuple [.str z, x] := rfl
def saidR (T : Option Str) (fl : Xc → Option PyData) (n : Nat) : Rs Wv → Rs Wv
  | .ok w st' => match frzL n st' w with
    | some x => .ok (.d (toldD T x)) (st'.take n)
    | none => .no
  | .ex e st' => match fl e with
    | some y => .ok (.d y) (st'.take n)
    | none => .no
  | .no => .no
@[simp] theorem saidR_d (T : Option Str) (fl : Xc → Option PyData) (n : Nat) (x : PyData) (st : Sto) : saidR T fl n (.ok (.d x) st) = .ok (.d (toldD T x)) (st.take n) := rfl
def Tb.lam (B : Tb) (us : List Nat) (gs : List Str) : Tb := ⟨B.N, us, [], [], gs, [], false, false, none⟩
end
section
variable [Wtp] [Tbl]
open LamX
/-! ## facts of the classes that are raised -/
section
variable {M : Md} {X : Cx} {B : Tb} {k : Nat} {pos p p2 p3 p4 p5 apos : Pos} {ea C : Addr} {xn : Str} {d : Option Addr}
@[simp] theorem x_isx (ea : Addr) (xn : Str) (p : Option (Addr × List (Str × PyData))) (b : Bool) (i : Nat) (env : En) (st : Sto) (h : env[i]? = some (some (.x ea xn p))) : eIsx ea xn (p.map (·.1)) b i env st = .ok (.d (.bool b)) st := by
  unfold eIsx
  rw [h]
  simp [xHas]
end
/-! ## the def that asks, from the top -/
/-! ## an attribute of the exception: a field of its class, or no field -/
@[simp] theorem x_xf (ea dd : Addr) (xn f : Str) (es : List (Str × PyData)) (y : PyData) (i : Nat) (env : En) (st : Sto) (h : env[i]? = some (some (.x ea xn (some (dd, es))))) (hy : es.lookup f = some y) : eXf ea xn (some dd) f i env st = .ok (.d y) st := by
  unfold eXf
  rw [h]
  simp [hy]
/-! ## what is said of the classes: the word, the fields -/
end
section
variable [Wtp] [Tbl]
open LamX
/-! ## raise of a class with fields: its __init__ tells its base's, then keeps the fields -/
/-! ## the three kinds of __init__ -/
/-! ## the class, the raise -/
def raiseW (x : Str) (fns : List Str) (ws : List Wv) (st1 : Sto) : SR := match allD ws with
  | some ds => if ds.length = fns.length then .ex ⟨x, (fns.zip ds).reverse⟩ st1 else .no
  | none => .no
def sRaiseF (x : Str) (fns : List Str) (cs : En → Sto → Rs (List Wv)) : En → Sto → SR := fun env st => (cs env st).sb (raiseW x fns)
@[simp] theorem x_raiseF (x : Str) (fns : List Str) (c : En → Sto → Rs (List Wv)) (env : En) (st : Sto) : sRaiseF x fns c env st = (c env st).sb (raiseW x fns) := rfl
end
section
variable [Wtp] [Tbl]
/-! ## defs as values: for f in (g, h, ..), f called -/
/-- where the module's defs stand -/
class FnA where
  a : Str → Addr
variable [FnA]
def fnv (x : Str) : Wv := .x (FnA.a x) x none
noncomputable def goF (c : En → Sto → Rs Wv) (i : Nat) (env : En) : List Str → List PyData → Sto → Rs (List PyData)
  | [], acc, st => .ok acc st
  | x :: r, acc, st => match c (env.set i (some (fnv x))) st with
    | .ok (.d y) st2 => goF c i env r (acc ++ [y]) st2
    | _ => .no
noncomputable def eLcF (fs : List Str) (i : Nat) (c : En → Sto → Rs Wv) (vs : List Nat) : En → Sto → Rs Wv := fun env st => (goF c i (wipeE env vs) fs [] st).bind fun ys st2 => .ok (.d (.list ys)) st2
@[simp] theorem x_lcF (fs : List Str) (i : Nat) (c : En → Sto → Rs Wv) (vs : List Nat) (env : En) (st : Sto) : eLcF fs i c vs env st = (goF c i (wipeE env vs) fs [] st).bind fun ys st2 => .ok (.d (.list ys)) st2 := rfl
/-! ### the law's own call, its reading by where the defs stand -/
end
section
variable [Wtp] [Tbl]
open LamX
/-! ## lambdas that are kept in a list -/
/-! ### a comprehension whose element may lean on the def's own state -/
/-- as tLc, the turns counted, no test -/
def tLcI (wi : TI) (g : TG) (te : TE) (vs : List Nat) : TE := fun σ H Q => wi σ H fun J H1 => ∀ D, H1 D = none → ∃ (n : Nat) (Z : Nat → Hp → Prop), Z 0 (upd H1 D (.lst [])) ∧ (∀ H2, Z n H2 → J.stop n H2 ∧ Q (.ref D) H2) ∧
  ∀ i H2, i < n → Z i H2 → J.go i H2 ∧ ∀ x H3, J.yld i H2 x H3 → g x (wipe σ vs) H3 fun σ4 H4 => wipe σ4 vs = wipe σ vs ∧ te σ4 H4 fun y H5 => ∃ acc, H5 D = some (.lst acc) ∧ acc.length < sizeLine ∧ Z (i + 1) (upd H5 D (.lst (acc ++ [y])))
section
variable {X : Cx}
theorem pe_lcI {elt tg iter : Expr} {scope : Scope} {own : List (Str × Nat)} {pos : Pos} {wi : TI} {g : TG} {te : L2.St → TE} (calm : X.calm = true) (nd : X.N.Nodup) (hi : PI X tg iter wi) (ok : BlkOk X.N X.env.scope scope own)
    (hg : ∀ (s : Shared) (H : Hp) (C : Addr) (cl : List (Str × Addr)) (fp : List Addr), PG (X.blk s H scope (compEnvC scope cl C X.env) fp) tg g)
    (he : ∀ (σ : L2.St) (pins : List (Addr × Obj)) (s : Shared) (H : Hp) (C : Addr) (cl : List (Str × Addr)) (fp : List Addr), Inv X pins σ H s → (∀ b ∈ fp, FpOk X pins H b) → PE (X.blk s H scope (compEnvC scope cl C X.env) fp) elt (te σ))
    (hs : ∀ x, foldedSetIterable iter X.env x = pure x := by intro _; rfl) : PE X (.ListComp elt [⟨tg, iter, [], 0⟩] scope pos) (fun σ => tLcI wi g (te σ) (own.map (·.2)) σ) := by
  refine ⟨fun pins s σ H Q I h => ?_⟩
  have clos : ∀ y ∈ scope.names, y.2 = .free → ∃ c, X.env.cells.lookup y.1 = some c := fun y hy e => (ok.free y hy e).elim (fun k => I.ok.has _ (.inl k)) fun k => I.ok.has _ (.inr k)
  rw [eval_ListComp]
  refine wpAny_comprehension_free rfl hs (closure_ok clos) ok.kind (fun y hy e => by rw [ok.uniq y hy, e]) (thn (hi.run pins s σ H _ I h) fun xv s1 hx => thn hx fun itv s2 hp => ?_)
  obtain ⟨it, fp, tn, J, H2, rfl, I2, T, t2, f2, turns⟩ := hp
  refine wpAny_newObj_type (newEnv_comp ?_) (by show 0 ≤ sizeLine; decide)
  -- the new list
  have DN : H2 s2.heap.objs.size = none := I2.hok.fresh (Nat.le_refl _)
  obtain ⟨n, Z, z0, zn, zi⟩ := turns _ DN
  have push : ∀ b o, s2.heap.get? b = some o → (s2.heap.push { cls := .type "list", data := .seq ([] : List Value).toArray }).get? b = some o := fun b o e => Heap.get?_push_of_some _ e
  have ID := I2.laid (t' := s2.toks) (o := .lst []) push (Nat.le_refl _) ⟨Nat.zero_le _, [], 0, .nil, Heap.get?_push_size _ rfl⟩
  have fpD : ∀ b ∈ fp, FpOk X pins (upd H2 s2.heap.objs.size (.lst [])) b ∧ b < (s2.heap.push { cls := .type "list", data := .seq ([] : List Value).toArray }).objs.size := fun b hb => by
    obtain ⟨o, e, _⟩ := T.obj _ _ t2 b hb
    have lt := Heap.lt_size e
    exact ⟨⟨by rw [upd_ne (Nat.ne_of_lt lt)]; exact (f2 b hb).1, (f2 b hb).2⟩, Heap.lt_size (push b o e)⟩
  have tD := T.keep 0 _ _ t2 fun b _ o e => push b o e
  obtain ⟨D, hD⟩ : ∃ D, D = s2.heap.objs.size := ⟨_, rfl⟩
  obtain ⟨sD, eD⟩ : ∃ sD, sD = ({ s2 with heap := s2.heap.push { cls := .type "list", data := .seq ([] : List Value).toArray } } : Shared) := ⟨_, rfl⟩
  have hDs : sD.heap = s2.heap.push { cls := .type "list", data := .seq ([] : List Value).toArray } := by rw [eD]
  rw [← hDs] at fpD tD
  rw [show ({ s2 with heap := s2.heap.push { cls := .type "list", data := .seq ([] : List Value).toArray }, toks := s2.toks } : Shared) = sD from eD.symm] at ID
  rw [← hD] at ID fpD z0 zn zi
  generalize upd H2 D (.lst []) = HD at *
  have IB := block_start ID ok nd fpD
  have pg := hg sD HD sD.heap.objs.size (cellsFrom (sD.heap.objs.size + 1) scope.names (cloFrom X.env.cells scope.names [])) fp
  have pe := he σ pins sD HD sD.heap.objs.size (cellsFrom (sD.heap.objs.size + 1) scope.names (cloFrom X.env.cells scope.names [])) fp ID fun b hb => (fpD b hb).1
  rw [← eD, ← hD]
  show codeAny _ _ (.compStart (.ListComp elt [⟨tg, iter, [], 0⟩] scope pos) 0 (.ref it) (.ref D) (compEnvC scope (cellsFrom (sD.heap.objs.size + 1) scope.names (cloFrom X.env.cells scope.names [])) sD.heap.objs.size X.env)) (compPost (model X.prog X.w) X.A X.xe none (EP X pins σ Q) (.ref D) sD.heap.objs.size) { sD with heap := pushCells (sD.heap.push { cls := .type "dict", data := .dict #[] }) scope.names }
  obtain ⟨ce, hce⟩ : ∃ ce, ce = compEnvC scope (cellsFrom (sD.heap.objs.size + 1) scope.names (cloFrom X.env.cells scope.names [])) sD.heap.objs.size X.env := ⟨_, rfl⟩
  have Lce : ce.locals = sD.heap.objs.size := by rw [hce]; rfl
  rw [← hce] at IB pg pe ⊢
  have tB := T.keep 0 _ (pushCells (sD.heap.push { cls := .type "dict", data := .dict #[] }) scope.names) tD fun b _ o e => pushCells_keeps _ _ _ _ (Heap.get?_push_of_some _ e)
  generalize hsB : ({ sD with heap := pushCells (sD.heap.push { cls := .type "dict", data := .dict #[] }) scope.names } : Shared) = sB at IB ⊢
  have tB : tn 0 sB.heap := by rw [← hsB]; exact tB
  -- the iterator's objects within the block
  have still : ∀ {σ' : L2.St} {H' : Hp} {s' : Shared}, Inv (X.blk sD HD scope ce fp) [] σ' H' s' → (∀ b ∈ fp, H' b = none) → ∀ b ∈ fp, FpOk (X.blk sD HD scope ce fp) [] H' b := fun J' no b hb => by
    have ob := J'.ok
    exact ⟨no b hb, (ob.exf b hb).1, ob.exfs b hb, .inl hb, (ob.exf b hb).2, fun p hp => nomatch hp⟩
  have ends : ∀ {H' : Hp} {s' : Shared} {σ' : L2.St}, Inv (X.blk sD HD scope ce fp) [] σ' H' s' → Q (.ref D) H' → compPost (model X.prog X.w) X.A X.xe none (EP X pins σ Q) (.ref D) sD.heap.objs.size (.ok .next) s' := fun {H' s' σ'} J' q => by
    have back : Inv X pins σ H' s' := ID.call' (ch := fp) J'.os J'.base J'.hok J'.bare fun b hb => ⟨(fpD b hb).1.2.2.2.1, (fpD b hb).1.2.1, (fpD b hb).1.2.2.2.2.1, (fpD b hb).1.2.2.2.2.2⟩
    have fr : H' ce.locals = none := J'.free
    obtain ⟨m, ns, _⟩ := J'.loc
    have ns : s'.heap.Ns ce.locals m := ns
    rw [Lce] at fr ns
    obtain ⟨g0, g1, g2, g3, g4, g5⟩ := ID.fpOk (Nat.le_refl _) fr
    exact ⟨m, ns, fun h'' same => ⟨.ref D, H', back.turned (t' := s'.toks) (fun b o hb e => (same.2 b hb).trans e) g0 g1 g3 g4 g5, rfl, q⟩⟩
  have loop : codeAny (model X.prog X.w) X.A (.compLoop (.ListComp elt [⟨tg, iter, [], 0⟩] scope pos) 0 (.ref it) (.ref D) ce) (compPost (model X.prog X.w) X.A X.xe none (EP X pins σ Q) (.ref D) sD.heap.objs.size) sB := by
    refine compLoop_any (fun m s' => ∃ i H', i + m = n ∧ Inv (X.blk sD HD scope ce fp) [] (wipe σ (own.map (·.2))) H' s' ∧ tn i s'.heap ∧ (∀ b ∈ fp, H' b = none) ∧ Z i H') ?_ n ⟨0, HD, Nat.zero_add n, IB, tB, fun b hb => (fpD b hb).1.1, z0⟩
    rintro m s' ⟨i, H', sum, J', ti, no, zz⟩
    rcases Nat.eq_zero_or_pos m with rfl | pos_m
    · -- all told
      obtain rfl : i = n := sum
      obtain ⟨stop, q⟩ := zn H' zz
      refine thnF (T.done (X.blk sD HD scope ce fp) rfl rfl rfl calm i [] s' _ H' (fun _ _ => False) J' (still J' no) ti stop) fun r s6 ⟨hr, J6⟩ => ?_
      subst hr
      exact ends J6 q
    · obtain ⟨go, step⟩ := zi i H' (by omega) zz
      refine thnF (T.item (X.blk sD HD scope ce fp) rfl rfl rfl calm i [] s' _ H' (fun _ _ => False) J' (still J' no) ti go) fun r s6 ⟨u, hr, q6⟩ => ?_
      subst hr
      refine thnF q6 fun _ s7 ⟨x, H7, J7, rx, yx, t7, no7⟩ => ?_
      have P7 := J7.pinned (still J7 no7) (T.obj _ _ t7)
      refine thnF (pg.run _ s7 _ H7 x u _ P7 rx (step x H7 yx)) fun _ s8 ⟨σ8, H8, J8, w8, q8⟩ => ?_
      refine thnF ((pts_nil (X := X.blk sD HD scope ce fp)).run _ s8 σ8 H8 (fun b H => b = true ∧ H = H8) J8 ⟨rfl, rfl⟩) fun b s9 ⟨H9, J9, hb, eH⟩ => ?_
      subst hb
      subst eH
      simp only [if_true]
      refine thnF (pe.run _ s9 σ8 H9 _ J9 q8) fun y s10 ⟨yv, H10, J10, ry, acc, hacc, room, z10⟩ => ?_
      refine app_ok (X := X.blk sD HD scope ce fp) J10 hacc room ry fun s11 J11 => ⟨m - 1, by omega, i + 1, _, by omega, (J11.unpinned (pins := [])).weak ?_ (fun j v e => ?_), T.keep _ _ _ t7 fun b hb o e => ?_, fun b hb => ?_, z10⟩
      · rw [← w8, wipe_length]
      · rw [← w8] at e
        exact (wipe_some e).1
      · exact (J11.pin (b, o) (List.mem_append_right _ (List.mem_append_right _ (mem_pinsAt hb e)))).1
      · obtain ⟨o, e, _⟩ := T.obj _ _ t7 b hb
        exact (J11.pin (b, o) (List.mem_append_right _ (List.mem_append_right _ (mem_pinsAt hb e)))).2.1
  exact codeAny_compStart_list loop (T.self X.A 0 _ _ _ tB loop)
end
/-! ### a lambda of the list is told -/
end
section
variable [Wtp] [Tbl]
open LamX
/-! ## lambdas kept in a list: read by data -/
def goK (T : Option Str) (fl : Xc → Option PyData) (env : En) : List (En → Sto → Rs Wv) → List PyData → Sto → Rs (List PyData)
  | [], acc, st => .ok acc st
  | cl :: r, acc, st => match saidR T fl st.length (cl env st) with
    | .ok (.d y) st2 => goK T fl env r (acc ++ [y]) st2
    | _ => .no
@[simp] theorem goK_nil (T : Option Str) (fl : Xc → Option PyData) (env : En) (acc : List PyData) (st : Sto) : goK T fl env [] acc st = .ok acc st := rfl
end
section
/-! ## t.count(x), t a tuple told plain -/
section
variable {X : Cx} {o e : Expr} {es : List Expr} {to : TE} {t : TA} {apos cpos : Pos} {id name : String} {r : V → List V → Hp → VK → Prop}
/-- a tuple's object, without a dict -/
def tyP (K : Frg) (x : V) (H : Hp) : Prop := ∃ p, x = .ref p ∧ ((∃ (o : Obj) (xs : List V), H p = some (.frz o (.tup xs)) ∧ o.dict = none) ∨ PlT K p)
def tBMP (K : Frg) (r : V → List V → Hp → VK → Prop) (to : TE) (t : TA) : TE := fun σ H Q => to σ H fun x H1 => tyP K x H1 ∧ t σ H1 fun xs H2 => r x xs H2 Q
theorem tyP_is {pins : List (Addr × Obj)} {σ : L2.St} {H : Hp} {s : Shared} {x : V} {v : Value} (I : Inv X pins σ H s) (rv : RelV x v) (ty : tyP X.K x H) :
    s.TypeIs v "tuple" ∧ ∀ a, v = .ref a → ∃ ob, s.heap.get? a = some ob ∧ ob.dict = none := by
  obtain ⟨p, rfl, h⟩ := ty
  cases rv
  rcases h with ⟨o, xs, h, n⟩ | ⟨o, l, hc, n⟩
  · obtain ⟨get, _, its, _, o2, get2, hc, _⟩ := I.hok p _ h
    rw [get] at get2
    cases get2
    refine ⟨⟨o, get, hc⟩, fun a e => ?_⟩
    cases e
    exact ⟨o, get, n⟩
  · refine ⟨⟨o, I.kIn p o l, hc⟩, fun a e => ?_⟩
    cases e
    exact ⟨o, I.kIn _ o l, n⟩
theorem pe_bmP (pa : PlainAttrs "tuple") (slot : Slot "tuple" name id) (hty : typeOf (.builtin id) = pure (.type "method_descriptor")) (hm : MtR X id r) (ho : PE X o to) (ha : PA X (e :: es) t)
    (hbase : attributeBase o name X.env (eval o X.env) = eval o X.env := by rfl)
    (hfew : ((backTo cpos (starEach (e :: es) X.env)).all (fun x => !x.1) && (backToKw cpos (keywordEach [] X.env)).all (fun x => x.1.isSome)
      && decide ((e :: es).length + ([] : List Keyword).length + (if ([] : List Keyword).isEmpty then 0 else 1) < 30)) = true := by rfl)
    (hline : (apos.endLine == cpos.line) = true := by rfl) (hs : starEach (e :: es) X.env = (false, eval e X.env) :: starEach es X.env := by rfl) (hplain : (backTo cpos (starEach es X.env)).any (·.1) = false := by rfl) :
    PE X (.Call (.Attribute o name apos) (e :: es) [] cpos) (tBMP X.K r to t) := by
  refine ⟨fun pins s σ H Q I h => ?_⟩
  refine wpAny_Call_method_late hbase hfew hline rfl (thn (ho.run pins s σ H _ I h) fun v s1 ⟨x, H1, I1, r1, ty, q1⟩ => ?_)
  obtain ⟨h1, h2⟩ := tyP_is I1 r1 ty
  refine ⟨"tuple", id, pa, slot, hty, h1, h2, ?_⟩
  have hA := ha.run cpos pins s1 σ H1 _ I1 q1
  rw [hs] at hA ⊢
  refine Calls.callWith_builtin (by show (false || (backTo cpos (starEach es X.env)).any (·.1)) = false; rw [hplain] <;> rfl) (Calls.evalArgs_plain ?_)
  exact thn hA fun us s2 ⟨vs, H2, I2, r2, q2⟩ => hm pins s2 σ H2 x vs v us Q I2 r1 r2 q2
end
section
variable [Wtp] [Tbl]
def isTd (st : Sto) (w : Wv) : Bool := match look st w with
  | some (.tuple _) => true
  | _ => false
def eMdT (f : PyData → List PyData → Option PyData) (co : En → Sto → Rs Wv) (cs : En → Sto → Rs (List Wv)) : En → Sto → Rs Wv := fun env st => (co env st).bind fun w st1 => if isTd st1 w = true then (cs env st1).bind fun ws st2 => match look st2 w, looks ws st2 with
    | some d, some ds => ret1 (f d ds) st2
    | _, _ => .no
  else .no
@[simp] theorem x_mdt (env : En) (st : Sto) (f : PyData → List PyData → Option PyData) (co : En → Sto → Rs Wv) (cs : En → Sto → Rs (List Wv)) : eMdT f co cs env st = ((co env st).bind fun w st1 => if isTd st1 w = true then (cs env st1).bind fun ws st2 => match look st2 w, looks ws st2 with
    | some d, some ds => ret1 (f d ds) st2
    | _, _ => .no
  else .no) := rfl
variable {M : Md} {X : Cx} {B : Tb} {k : Nat} {pins : List (Addr × Obj)} {σ : L2.St} {H : Hp} {s : Shared} {W : WX} {pos apos : Pos} {o e : Expr} {es : List Expr} {co : En → Sto → Rs Wv} {cs : En → Sto → Rs (List Wv)}
theorem te_mdt (hF : Wtp.F = true) (f : PyData → List PyData → Option PyData) {Q : VK} (h : tE X W (eMdT f co cs) σ H Q) : tBMP X.K (rMd X.K f) (tE X W co) (tA X W cs) σ H Q := by
  obtain ⟨m, env, st, S, R, hp⟩ := h
  unfold eMdT at hp
  rw [Rs.post_bind] at hp
  refine ⟨m, env, st, S, R, Rs.post_mono hp (fun w st1 q1 v H1 m1 f1 S1 r1 => ?_) fun _ _ q => q⟩
  split at q1
  · rename_i hw
    rw [Rs.post_bind] at q1
    have ty : tyP X.K v H1 := by
      unfold isTd at hw
      split at hw
      · rename_i xs e1
        obtain ⟨b, vs, rfl, h1, h2⟩ := (look_rt S1 r1 e1).tupT
        rcases h1 with ⟨z, _⟩ | h1 | ⟨_, o, h1, n⟩
        · rw [hF] at z; cases z
        · exact ⟨b, rfl, .inr h1.2.2⟩
        · exact ⟨b, rfl, .inl ⟨o, vs, h1, n⟩⟩
      · cases hw
    refine ⟨ty, m1, env, st1, S1, R.mv f1, Rs.post_mono q1 (fun ws st2 q2 vs H2 m2 f2 S2 r2 => ?_) fun _ _ z => okX.tr f1 z⟩
    split at q2
    · rename_i d ds e1 e2
      obtain ⟨r, e3, q⟩ := ret1_post q2
      exact ⟨_, d, ds, r, fun a => S2.fresh, look_rt S2 (r1.mv f2) e1, looks_rt S2 r2 e2, e3, okE.out (f1.trans f2) S2 q⟩
    · exact q2.elim
  · exact q1.elim
/-- t.count(x) -/
def cntT : PyData → List PyData → Option PyData
  | .tuple xs, [d] => if PyData.plainAll xs = true ∧ d.plain = true ∧ min (PyData.depthAll xs) d.depth ≤ 40 then some (.int ((xs.countP fun y => PyData.eqv y d : Nat))) else none
  | _, _ => none
theorem m_countT (hr : L2H.RoomH k X.A) : MtR X "tuple.count" (rMd X.K cntT) := by
  intro pins s σ H x xs v us Q I rx rxs ⟨Z, d, ds, r, hz, hd, hds, hf, ho⟩
  have hu := room_eq hr (show 60 ≤ 60 by decide)
  unfold cntT at hf
  split at hf
  · rename_i ys y
    split at hf
    · rename_i hc
      cases hf
      obtain ⟨a, vs, rfl, h1, h2⟩ := hd.tup
      obtain ⟨z, rfl, h'⟩ := rts1 hds
      obtain ⟨u', rfl, rz'⟩ := vals1 rxs
      cases rx
      obtain ⟨its, rv, hl, _⟩ := I.tuple h1
      obtain ⟨as, rd⟩ := RpA.reads I _ vs its h2 rv
      obtain ⟨bs, rb⟩ := Inv.rt I h' rz'
      exact PySem.SeqAt.count_tuple_data hl (by simpa using rd) rb hc.1 hc.2.1 (by omega) ⟨.int _, H, I.tok _, ⟨_, rfl⟩, rout_here ho (.int _)⟩
    · cases hf
  · cases hf
theorem de_countT (c : Cxt M X B k) (ho : DE X o co) (ha : DA X (e :: es) cs) (hF : Wtp.F = true := by rfl)
    (hbase : attributeBase o "count" X.env (eval o X.env) = eval o X.env := by rfl)
    (hfew : ((backTo pos (starEach (e :: es) X.env)).all (fun x => !x.1) && (backToKw pos (keywordEach [] X.env)).all (fun x => x.1.isSome)
      && decide ((e :: es).length + ([] : List Keyword).length + (if ([] : List Keyword).isEmpty then 0 else 1) < 30)) = true := by rfl)
    (hline : (apos.endLine == pos.line) = true := by rfl) (hs : starEach (e :: es) X.env = (false, eval e X.env) :: starEach es X.env := by rfl) (hplain : (backTo pos (starEach es X.env)).any (·.1) = false := by rfl) :
    DE X (.Call (.Attribute o "count" apos) (e :: es) [] pos) (eMdT cntT co cs) :=
  ⟨fun W tk => PE.imp (pe_bmP PySem.F.plainAttrs_tuple PySem.F.slot_tuple_count PySem.F.type_tuple_count (m_countT c.roomH) (ho.pe W tk) (ha.pa W tk) hbase hfew hline hs hplain) fun σ H Q => te_mdt hF cntT⟩
end
/-! ## [k + (d[k],) for k in d], d a dict of the def's own, its keys tuples -/
section
variable {X : Cx}
theorem ix_dT (hu : X.A.units + 1 < cLine) : IxR X (fun x y H Q => ∃ (a b : Addr) (v : V) (kvs : List (List Key × V)) (k : List Key), x = .ref a ∧ y = .ref b ∧ Rd H a (.dT kvs) ∧ H b = some (.tup (k.map kV)) ∧ valV kvs k = some v ∧ Q v H) := by
  intro value slice pins s σ H x y v u Q I rx ry h hs
  obtain ⟨a, b, z, kvs, k, rfl, rfl, e, eb, l, q⟩ := h
  cases rx
  have g : DGet H a (.ref b) (some z) := .inr ⟨kvs, k, b, e, rfl, eb, l.symm⟩
  obtain ⟨_, _, xs, rel, dd⟩ := dt_rd I.hok e
  exact tail_any dd.typeIs PySem.F.slot_dict_getitem.lookup (d_getItem hu I g ry fun w' s1 I1 r1 => ⟨z, H, I1, r1, q⟩) hs
end
def smlD (es : List (PyData × PyData)) (c : PyData) : PyData := match c, tkD c with
  | .tuple ds, some k => .tuple (ds ++ [(dLookT es k).getD .none])
  | _, _ => .none
def smlOk (es : List (PyData × PyData)) : Bool := es.all fun e => match e.1 with
  | .tuple ds => decide (ds ≠ []) && decide (ds.length ≤ 1000)
  | _ => false
section
variable [Wtp] [Tbl]
def eSml (i j : Nat) : En → Sto → Rs Wv := fun env st => match env[j]? with
  | some (some (.r n)) => match st[n]? with
    | some (.dtt es) => if es.length ≤ 1000000 ∧ smlOk es = true ∧ i < env.length then .ok (.d (.list (es.map fun e => smlD es e.1))) (st.set n (.lkd es)) else .no
    | _ => .no
  | _ => .no
variable {M : Md} {X : Cx} {B : Tb} {k : Nat} {pins : List (Addr × Obj)} {σ : L2.St} {H : Hp} {s : Shared} {W : WX} {m : Mp} {env : En} {st : Sto}
/-- the element, by values -/
def tSml (X : Cx) (i j : Nat) : TE := tOp (fun x y H Q => ∃ a b xs ys, x = .ref a ∧ y = .ref b ∧ SqT X.K H a xs ∧ SqT X.K H b ys ∧ xs.length + ys.length ≤ sizeLine ∧ (xs = [] → Q (.ref b) H) ∧ (xs ≠ [] → ys = [] → Q (.ref a) H) ∧ (xs ≠ [] → ys ≠ [] → NewT H Q (xs ++ ys))) (tVar i)
  (fun σ H Q => tCons (tOp (fun x y H Q => ∃ (a b : Addr) (v : V) (kvs : List (List Key × V)) (k : List Key), x = .ref a ∧ y = .ref b ∧ Rd H a (.dT kvs) ∧ H b = some (.tup (k.map kV)) ∧ valV kvs k = some v ∧ Q v H) (tVar j) (tVar i)) tNil σ H fun xs H1 => xs.length ≤ sizeLine ∧ NewT H1 Q xs)
theorem pe_sml {kx dx : Str} {i j kt : Nat} {p1 p2 p3 p4 p5 p6 : Pos} (c : Cxt M X B k) (hi : B.N[i]? = some kx) (hiu : i ∈ B.us) (hj : B.N[j]? = some dx) (hju : j ∈ B.us)
    (d1 : (kx == ("__debug__" : Str)) = false) (d2 : (kx == ("__classdict__" : Str)) = false) (d3 : (dx == ("__debug__" : Str)) = false) (d4 : (dx == ("__classdict__" : Str)) = false) :
    PE X (.BinOp (.Name kx p1) .Add (.Tuple [.Subscript (.Name dx p2) (.Name kx p3) p4] kt p5) p6) (tSml X i j) :=
  pe_op op_catN (pe_var (by rw [c.hN]; exact hi) (c.vis i hiu kx hi) d1 d2)
    (pe_tupN (pa_cons (pe_ix (ix_dT (X := X) (room_eq c.roomH (show 1 ≤ 60 by decide))) (pe_var (by rw [c.hN]; exact hj) (c.vis j hju dx hj) d3 d4) (pe_var (by rw [c.hN]; exact hi) (c.vis i hiu kx hi) d1 d2) (fun _ _ => rfl)) pa_nil))
theorem de_sml (cx : Cxt M X B k) {kx dx : Str} {i j kt : Nat} {p1 p2 p3 p4 p5 p6 p7 p8 pos : Pos} {scope : Scope} (own : List (Str × Nat)) (us ls : List Nat) (gs cs : List Str) (hb : blkT B us ls gs cs scope own = true) (hF : Wtp.F = true)
    (hi : B.N[i]? = some kx) (hil : i ∈ ls) (hiu : i ∈ us) (hiv : i ∈ own.map (·.2)) (hj : B.N[j]? = some dx) (hju : j ∈ us) (hjU : j ∈ B.us) (hjv : j ∉ own.map (·.2)) (hij : j ≠ i)
    (d1 : (kx == ("__debug__" : Str)) = false) (d2 : (kx == ("__classdict__" : Str)) = false) (d3 : (dx == ("__debug__" : Str)) = false) (d4 : (dx == ("__classdict__" : Str)) = false)
    (hs : ∀ x, foldedSetIterable (.Name dx p8) X.env x = pure x := by intro _; rfl) :
    DE X (.ListComp (.BinOp (.Name kx p1) .Add (.Tuple [.Subscript (.Name dx p2) (.Name kx p3) p4] kt p5) p6) [⟨.Name kx p7, .Name dx p8, [], 0⟩] scope pos) (eSml i j) := by
  refine ⟨fun W tk => PE.imp (pe_lcI (te := fun _ => tSml X i j) (g := gName i) cx.calm (by rw [cx.hN]; exact cx.nd) (pi_keys ((de_frz (de_var (pos := p8) cx j hj hjU d3 d4)).pe W tk)) (cx.blkOk hb)
    (fun s H C cl fp => ?_) (fun σ pins s H C cl fp _ _ => pe_sml (cx.blk hb s H C cl fp) hi hiu hj hju d1 d2 d3 d4) hs) fun σ H Q ⟨m, env, st, S, R, hp⟩ => ?_⟩
  · have c1 := cx.blk hb s H C cl fp
    obtain ⟨l1, l2⟩ := c1.loc i hil kx hi
    exact pg_name (by rw [c1.hN]; exact c1.nd) (by rw [c1.hN]; exact hi) l1 l2
  unfold eSml at hp
  split at hp
  · rename_i n ej
    split at hp
    · rename_i es en
      split at hp
      · rename_i hc
        obtain ⟨hl, hok, hie⟩ := hc
        obtain ⟨vj, hvj, rj⟩ := R.at' j _ ej
        refine ⟨m, env, st, S, R, ?_⟩
        unfold eFrz
        rw [Rs.post_bind]
        unfold eVar
        rw [ej]
        simp only [Rs.post_ok]
        rw [frzV_t en]
        intro v H1 m1 f1 S1 r1
        have ln : (st.set n (Ob.lkd es)).length = st.length := List.length_set
        have hn : n < st.length := (List.getElem?_eq_some_iff.mp en).1
        have fin : ∀ D, H1 D = none → ∀ H2 acc, Fol m1 (st.set n (Ob.lkd es)).length H1 ((m1.with D).done D) (st.set n (Ob.lkd es)).length H2 → Sim X.K H2 (m1.with D) (st.set n (Ob.lkd es)) → H2 D = some (.lst acc) →
            RpA X.K H2 (Off (m1.with D) (st.set n (Ob.lkd es)).length) acc (es.map fun e => smlD es e.1) → Q (.ref D) H2 := fun D hD H2 acc f2 S2 h3 h5 => by
          have FD : (m1.with D).F D := .inr rfl
          have kp : Kp X.K H2 (Off (m1.with D) (st.set n (Ob.lkd es)).length) H2 (Off ((m1.with D).done D) (st.set n (Ob.lkd es)).length) := ⟨fun _ _ h => h, fun _ _ _ h => h, fun a o _ h z => ⟨h, off_done a z⟩⟩
          exact hp _ H2 ((m1.with D).done D) (f1.trans f2) (S2.sub rfl fun a z => z.1) (.lst (.inl ⟨h3, fun i hi e => S2.fi i hi (by rw [show (m1.with D).ix i = D from e]; exact FD), fun z => z.2 rfl⟩) (h5.mv kp))
        cases r1 with
        | dic h1 h2 =>
          cases h2 with
          | nil =>
            refine ⟨_, _, rfl, .inl ⟨[], h1, fun D hD => ?_⟩⟩
            obtain ⟨S0, f0⟩ := S1.start (D := D) (o := .lst []) hD
            refine ⟨0, fun _ H2 => H2 = upd H1 D (.lst []), rfl, fun H2 e => ?_, fun i H2 hi _ => absurd hi (Nat.not_lt_zero _)⟩
            subst e
            refine ⟨⟨grow_upd hD _ _ h1, Nat.le_refl _⟩, fin D hD _ [] (f0.done (nn_no hD)) S0 upd_same .nil⟩
          | @cons k0 _ _ c0 _ _ h0 _ _ =>
            exfalso
            have := List.all_eq_true.mp hok _ (List.mem_cons_self)
            cases c0 <;> first | (simp at this; done) | (cases h0; done)
        | @dit a o kvs _ h1 h2 =>
          refine ⟨a, o, rfl, .inr ⟨kvs, h1, ?_⟩⟩
          intro D hD
          have hl2 : kvs.length = es.length := h2.len
          obtain ⟨S0, f0⟩ := S1.start (D := D) (o := .lst []) hD
          have FD : (m1.with D).F D := .inr rfl
          refine ⟨kvs.length, fun t H2 => ∃ acc, Fol m1 (st.set n (Ob.lkd es)).length H1 ((m1.with D).done D) (st.set n (Ob.lkd es)).length H2 ∧ Sim X.K H2 (m1.with D) (st.set n (Ob.lkd es)) ∧ H2 D = some (.lst acc) ∧ acc.length = t ∧ RpA X.K H2 (Off (m1.with D) (st.set n (Ob.lkd es)).length) acc ((es.take t).map fun e => smlD es e.1),
            ⟨[], f0.done (nn_no hD), S0, upd_same, rfl, .nil⟩, fun H2 ⟨acc, f2, S2, h3, h4, h5⟩ => ⟨⟨f2.frz _ _ _ h1, Nat.le_refl _⟩, ?_⟩, fun t H2 ht ⟨acc, f2, S2, h3, h4, h5⟩ => ⟨⟨f2.frz _ _ _ h1, ht⟩, fun x H3 y => ?_⟩⟩
          · rw [List.take_of_length_le (by omega)] at h5
            exact fin D hD H2 acc f2 S2 h3 h5
          · obtain ⟨rfl, key, w, q, e1, rfl, hq⟩ := y
            obtain ⟨cK, d, ee, hk, _⟩ := h2.at' e1
            have okc : ∃ ds, cK = .tuple ds ∧ ds ≠ [] ∧ ds.length ≤ 1000 := by
              have := List.all_eq_true.mp hok _ (List.mem_of_getElem? ee)
              cases cK <;> first | (simp at this; done) | (cases hk; done) | skip
              rename_i ds
              simp only [Bool.and_eq_true, decide_eq_true_eq] at this
              exact ⟨ds, rfl, this.1, this.2⟩
            obtain ⟨ds, rfl, hne, hds⟩ := okc
            have hkd : keysD ds = some key := hk
            have hkl : key.length = ds.length := by
              have := (rp_keys (K := X.K) (H := H3) (Z := fun _ => True) hkd).len
              simpa using this
            obtain ⟨o2, kv2, hd1, hd2⟩ : ∃ o2 kv2, H1 (m1.ix n) = some (.frz o2 (.dT kv2)) ∧ RpT X.K H1 (Off m1 (st.set n (Ob.lkd es)).length) kv2 es := by
              have ob : Rp X.K H1 (Off m1 (st.set n (Ob.lkd es)).length) (.ref (m1.ix n)) (.dict es) := S1.ob n _ (List.getElem?_set_self hn)
              cases ob with
              | dit z1 z2 => exact ⟨_, _, z1, z2⟩
              | dic z1 z2 =>
                exfalso
                cases z2 with
                | nil => simp at ee
                | @cons k0 _ _ c0 _ _ h0 _ _ =>
                  have := List.all_eq_true.mp hok _ (List.mem_cons_self)
                  cases c0 <;> first | (simp at this; done) | (cases h0; done)
            rcases dLookT_rp key hd2 with ⟨v', d', l1, l2, rp⟩ | ⟨_, l2⟩
            rotate_left
            · exfalso
              unfold dLookT at l2
              rw [Option.map_eq_none_iff, List.find?_eq_none] at l2
              exact l2 _ (List.mem_of_getElem? ee) (by simp [hk])
            have hlen : (wipe σ (own.map (·.2))).length = env.length := by rw [wipe_length, ← R.len]
            have hi4 : ((wipe σ (own.map (·.2))).set i (some (V.ref q)))[i]? = some (some (.ref q)) := List.getElem?_set_self (by rw [hlen]; exact hie)
            have hj4 : ((wipe σ (own.map (·.2))).set i (some (V.ref q)))[j]? = some (some (.ref (m1.ix n))) := by
              rw [List.getElem?_set_ne (fun e => hij e.symm), wipe_out hjv, hvj, rj.2, f1.old n hn]
            refine ⟨But.wipe (But.set (S := [i]) (List.mem_singleton.mpr rfl)) (fun z hz => by rw [List.mem_singleton.mp hz]; exact hiv), ?_⟩
            refine ⟨.ref q, hi4, .ref (m1.ix n), hj4, .ref q, hi4, m1.ix n, q, v', kv2, key, rfl, rfl, .inr ⟨o2, f2.frz _ _ _ hd1⟩, hq, l1, Nat.le_trans (by decide : (1 : Nat) ≤ 1000) (Nat.le_trans (by decide) line_lim), fun p ob hp no => ?_⟩
            have g1 := grow_upd (o := .frz ob (.tup [v'])) hp
            refine ⟨q, p, key.map kV, [v'], rfl, rfl, .inl (.inl (g1 _ _ hq)), .inl (.inr ⟨ob, upd_same⟩), by have := line_lim; simp; omega, fun z => ?_, fun _ z => (List.cons_ne_nil _ _ z).elim, fun _ _ p2 ob2 hp2 no2 => ?_⟩
            · exfalso
              have : (key.map kV).length = 0 := by rw [z]; rfl
              rw [List.length_map, hkl] at this
              exact hne (List.eq_nil_of_length_eq_zero this)
            have g2 := grow_upd (o := .frz ob2 (.tup (key.map kV ++ [v']))) hp2
            have g : ∀ b u, H3 b = some u → upd (upd H3 p (.frz ob (.tup [v']))) p2 (.frz ob2 (.tup (key.map kV ++ [v']))) b = some u := fun b u e => g2 _ _ (g1 _ _ e)
            have kp1 : Kp X.K H1 (Off m1 (st.set n (Ob.lkd es)).length) H3 (Off (m1.with D) (st.set n (Ob.lkd es)).length) := ⟨f2.tup, f2.frz, fun a o nt h z => ⟨((f2.kp (K := X.K)).rest a o nt h z).1, z.1, fun q => q.elim z.2 fun e => by rw [e, hD] at h; cases h⟩⟩
            have kp2 := (Fol.same (m := m1.with D) (n := (st.set n (Ob.lkd es)).length) g).kp (K := X.K)
            have c5 := g _ _ h3
            have kp3 : Kp X.K (upd (upd H3 p (.frz ob (.tup [v']))) p2 (.frz ob2 (.tup (key.map kV ++ [v'])))) (Off (m1.with D) (st.set n (Ob.lkd es)).length) _ (Off (m1.with D) (st.set n (Ob.lkd es)).length) := .push (xs := acc ++ [V.ref p2]) FD c5
            have rnew : Rp X.K (upd (upd H3 p (.frz ob (.tup [v']))) p2 (.frz ob2 (.tup (key.map kV ++ [v'])))) (Off (m1.with D) (st.set n (Ob.lkd es)).length) (.ref p2) (smlD es (.tuple ds)) := by
              have e2 : smlD es (.tuple ds) = .tuple (ds ++ [d']) := by
                unfold smlD
                simp only [hk, l2, Option.getD_some]
              rw [e2]
              exact .tup (.inr (.inr ⟨hF, ob2, upd_same, no2⟩)) ((rp_keys hkd).app (.cons ((rp.mv kp1).mv kp2) .nil))
            refine ⟨acc, c5, by have := line_lim; omega, acc ++ [V.ref p2], (f2.trans ((Fol.same g).done2 D)).updD (nn_no hD), (S2.grow g).push FD c5, upd_same, by simp [h4], ?_⟩
            rw [List.take_succ, ee, List.map_append]
            exact ((h5.mv kp2).app (.cons rnew .nil)).mv kp3
      · exact hp.elim
    · exact hp.elim
  · exact hp.elim
end
end
section
/-! ## list(d.values()) of a dict whose keys are no tuples -/
section
variable [Wtp] [Tbl]
def vlsF : PyData → Option PyData
  | .dict es => if kindK es = true ∧ es.length ≤ 1000000 then some (.list (es.map (·.2))) else none
  | _ => none
theorem o_vls {es : List (PyData × PyData)} (h : kindK es = true) (h2 : es.length ≤ 1000000) : vlsF (.dict es) = some (.list (es.map (·.2))) := by
  show (if kindK es = true ∧ es.length ≤ 1000000 then _ else none) = _
  rw [if_pos ⟨h, h2⟩]
def eVls (co : En → Sto → Rs Wv) : En → Sto → Rs Wv := fun env st => (co env st).bind fun w st1 => look1 w st1 fun d => ret1 (vlsF d) st1
@[simp] theorem x_vls (env : En) (st : Sto) (co : En → Sto → Rs Wv) : eVls co env st = (co env st).bind fun w st1 => look1 w st1 fun d => ret1 (vlsF d) st1 := rfl
theorem rpk_vals {K : Frg} {H : Hp} {Z : Addr → Prop} : ∀ {kvs : List (Key × V)} {es : List (PyData × PyData)}, RpK K H Z kvs es → RpA K H Z (kvs.map (·.2)) (es.map (·.2))
  | [], _, h => by cases h; exact .nil
  | (k, v) :: kvs, _, h => by
    cases h with
    | @cons _ _ _ c d es h0 h1 h2 => exact .cons h1 (rpk_vals h2)
theorem kv_vals {κ : Type} : ∀ {kvs : List (κ × V)} {vs : List (κ × Value)}, KV kvs vs → Vals (kvs.map (·.2)) (vs.map (·.2))
  | [], [], _ => .nil
  | _ :: _, _ :: _, .cons h t => .cons h.2 (kv_vals t)
variable {M : Md} {X : Cx} {B : Tb} {k : Nat} {pins : List (Addr × Obj)} {σ : L2.St} {H H2 : Hp} {s : Shared} {m : Mp} {env : En} {st : Sto} {W : WX} {pos apos p p2 kpos ipos : Pos} {o e : Expr} {co ce : En → Sto → Rs Wv}
open PySem.W in
theorem de_vls (c : Cxt M X B k) (j : Nat) (hg : B.gs[j]? = some ("list" : Str)) (hm : M.mg "list" = none) (ho : DE X o co)
    (hbase : attributeBase o "values" X.env (eval o X.env) = eval o X.env := by rfl) (hline : (apos.endLine == ipos.line) = true := by rfl)
    (he : starEach [.Call (.Attribute o "values" apos) [] [] ipos] X.env = [(false, eval (.Call (.Attribute o "values" apos) [] [] ipos) X.env)] := by rfl) :
    DE X (.Call (.Name "list" p) [.Call (.Attribute o "values" apos) [] [] ipos] [] pos) (eVls co) := by
  refine .mk' fun W pins σ H s m env st Q tk I S R hp => ?_
  unfold eVls at hp
  rw [Rs.post_bind] at hp
  refine wpAny_Call_Name_kw (ld_blt I (c.gl j _ hg) (by rw [c.mg]; exact hm) (by decide +kernel : bootBuiltins ("list" : Str) = some (.type "list")) ?_ (by decide) (by decide))
  rw [he]
  refine PyProof.Rows.callWith_type (E := X.xe) rfl (Calls.evalArgs_plain (Calls.spliced_cons (wpAny_mono ?_ (fun _ _ h₁ => Calls.spliced_nil h₁) fun _ _ e => e)))
  refine wpAny_Call_method0_late hbase hline (ho.go tk I S R (Rs.post_mono hp (fun w st1 q v H1 m1 u s1 I1 rv f1 S1 r1 => ?_) fun _ _ q => q))
  obtain ⟨dd, e1, q⟩ := look1_post q
  obtain ⟨z, e3, q9⟩ := ret1_post q
  have hd : RT X.K H1 (Off m1 st1.length) v dd := look_rt S1 r1 e1
  unfold vlsF at e3
  split at e3
  · rename_i es
    split at e3
    · rename_i hc
      cases e3
      obtain ⟨a, rfl, hdk⟩ := hd.dic
      obtain rfl : u = Value.ref a := rv
      obtain ⟨t1, t2, _⟩ := isD_at I1 (DkT.isD hdk)
      obtain ⟨hsm, kvs, vs, h2, rel, dd⟩ := dkT_k (Z := Off m1 st1.length) I1 hdk hc.1
      refine ⟨"dict", "dict.values", PySem.F.plainAttrs_dict, PySem.F.slot_dict_values, PySem.F.type_dict_values, t1, t2, Calls.callWith_builtin rfl (PySem.evalArgs_none
        (call_meetsIn PySem.F.slot_dict_values dd.typeIs PySem.F.entry_dict_values (PySem.F.args_dict_values_1 _) (meets_dict_values (mixKind X.prog X.w) a hsm) ⟨⟨vs, dd⟩, ?_⟩))⟩
      have hvw : (s1.heap.push { cls := .type "dict_values", data := .fields #[.ref a] }).IsValuesView s1.heap.objs.size a := ⟨_, Heap.get?_push_size _ rfl, rfl, rfl⟩
      obtain ⟨ep, hat⟩ := dd.dictAt
      have hl : vs.length ≤ sizeLine := by rw [← rel.length, h2.len]; exact Nat.le_trans hc.2 line_lim
      refine kdl_call (kdl_values (knd := mixKind X.prog X.w) (kvs := vs) (ep := ep)) (I1.ok.hd c.calm) ⟨hvw, hat.push _⟩ hl fun h' tk2 acc cc kp3 hD hacc => ?_
      have kp : ∀ b o, s1.heap.get? b = some o → h'.get? b = some o := fun b o e => kp3 b o (Heap.get?_push_of_some _ e)
      generalize hp : (s1.heap.push { cls := .type "dict_values", data := .fields #[.ref a] }).objs.size = pp at hD
      have hpl : s1.heap.objs.size ≤ pp := by rw [← hp, Heap.size_push]; exact Nat.le_succ _
      have hn0 : H1 pp = none := I1.hok.fresh hpl
      have ea : acc.toList = vs.map (·.2) := kdl_vals_eq acc.toList (by rw [Array.length_toList]; exact hacc.1) fun j v e => hacc.2 j v (by rw [← Array.getElem?_toList]; exact e)
      have rv : Vals (kvs.map (·.2)) acc.toList := by rw [ea]; exact kv_vals rel
      have hlen : (kvs.map (·.2)).length ≤ sizeLine := by rw [List.length_map, h2.len]; exact Nat.le_trans hc.2 line_lim
      have I2 : Inv X pins σ (upd H1 pp (.lst (kvs.map (·.2)))) { s1 with heap := h', toks := tk2 } := I1.laid (t' := tk2) kp hpl ⟨hlen, acc.toList, cc, rv, by rw [Array.toArray_toList]; exact hD⟩
      have gr : ∀ b o, H1 b = some o → upd H1 pp (.lst (kvs.map (·.2))) b = some o := fun b o e => by rw [upd_ne (ne_of_none e hn0)]; exact e
      exact q9 (.ref pp) _ m1 _ _ I2 rfl (f1.trans (Fol.same gr)) (S1.grow gr) (.lst (.inl ⟨upd_same, S1.fresh hn0⟩) (rpk_vals (RpK.kp (Fol.same (m := m1) (n := st1.length) gr).kp _ _ h2)))
    · cases e3
  · cases e3
end
end
section
variable [Tbl]
def topS (i : Nat) : Stmt := PySem.Challenge.pw_bentstones_k35_picks_within_a_miss.main.body.getD i (.Pass ⟨0, 0, 0, 0⟩)
def w_MOST_BATCH : PyData := (.int 9)
def w_MOST_KINDS : PyData := (.int 100)
def w_MOST_KINDS_HERE : PyData := (.int 8)
def w_MOST_LONG : PyData := (.int 20)
def w_MOST_PLACES : PyData := (.int 8)
def w_MOST_SHADE : PyData := (.int 20)
@[reducible] instance theW : Wtp := ⟨[], true⟩
structure Hs (M : Md) : Prop where
  sm : SysM M.base
  z_abs : M.mg "abs" = none
  z_all : M.mg "all" = none
  z_bool : M.mg "bool" = none
  z_enumerate : M.mg "enumerate" = none
  z_int : M.mg "int" = none
  z_isinstance : M.mg "isinstance" = none
  z_len : M.mg "len" = none
  z_list : M.mg "list" = none
  z_max : M.mg "max" = none
  z_min : M.mg "min" = none
  z_range : M.mg "range" = none
  z_repr : M.mg "repr" = none
  z_sorted : M.mg "sorted" = none
  z_sum : M.mg "sum" = none
  z_tuple : M.mg "tuple" = none
  z_zip : M.mg "zip" = none
  g_MOST_BATCH : Gw M "MOST_BATCH" w_MOST_BATCH
  g_MOST_KINDS : Gw M "MOST_KINDS" w_MOST_KINDS
  g_MOST_KINDS_HERE : Gw M "MOST_KINDS_HERE" w_MOST_KINDS_HERE
  g_MOST_LONG : Gw M "MOST_LONG" w_MOST_LONG
  g_MOST_PLACES : Gw M "MOST_PLACES" w_MOST_PLACES
  g_MOST_SHADE : Gw M "MOST_SHADE" w_MOST_SHADE
theorem q_MOST_BATCH {M : Md} {X : Cx} {B : Tb} {k : Nat} {p : Pos} (T : Hs M) (c : Cxt M X B k) (j : Nat) (h : B.gs[j]? = some "MOST_BATCH") : DE X (.Name "MOST_BATCH" p) (eK w_MOST_BATCH) := de_gw c j h T.g_MOST_BATCH
theorem q_MOST_KINDS {M : Md} {X : Cx} {B : Tb} {k : Nat} {p : Pos} (T : Hs M) (c : Cxt M X B k) (j : Nat) (h : B.gs[j]? = some "MOST_KINDS") : DE X (.Name "MOST_KINDS" p) (eK w_MOST_KINDS) := de_gw c j h T.g_MOST_KINDS
theorem q_MOST_KINDS_HERE {M : Md} {X : Cx} {B : Tb} {k : Nat} {p : Pos} (T : Hs M) (c : Cxt M X B k) (j : Nat) (h : B.gs[j]? = some "MOST_KINDS_HERE") : DE X (.Name "MOST_KINDS_HERE" p) (eK w_MOST_KINDS_HERE) := de_gw c j h T.g_MOST_KINDS_HERE
theorem q_MOST_LONG {M : Md} {X : Cx} {B : Tb} {k : Nat} {p : Pos} (T : Hs M) (c : Cxt M X B k) (j : Nat) (h : B.gs[j]? = some "MOST_LONG") : DE X (.Name "MOST_LONG" p) (eK w_MOST_LONG) := de_gw c j h T.g_MOST_LONG
theorem q_MOST_PLACES {M : Md} {X : Cx} {B : Tb} {k : Nat} {p : Pos} (T : Hs M) (c : Cxt M X B k) (j : Nat) (h : B.gs[j]? = some "MOST_PLACES") : DE X (.Name "MOST_PLACES" p) (eK w_MOST_PLACES) := de_gw c j h T.g_MOST_PLACES
theorem q_MOST_SHADE {M : Md} {X : Cx} {B : Tb} {k : Nat} {p : Pos} (T : Hs M) (c : Cxt M X B k) (j : Nat) (h : B.gs[j]? = some "MOST_SHADE") : DE X (.Name "MOST_SHADE" p) (eK w_MOST_SHADE) := de_gw c j h T.g_MOST_SHADE
abbrev s__law_pen_of : Stmt := topS 35
def B__law_pen_of : Tb := ⟨["_law_cell", "_law_left"], [0, 1], [0, 1], [0, 1], ["max", "int"], [], true, false, none⟩
theorem sc__law_pen_of : FnScope B__law_pen_of.N ["_law_cell"] (defScope s__law_pen_of) := ⟨rfl, rfl, rfl, by decide +kernel, rfl, by decide +kernel, by decide +kernel⟩
theorem t__law_pen_of : fnT B__law_pen_of (defScope s__law_pen_of) = true := by decide +kernel
noncomputable def d__law_pen_of : En → Sto → SR :=
    (sSeq (sSet 1 (eOpN max2F (aCons (eVar 0) (aCons (eOp2 subD (eK (.int 0)) (eVar 0)) aNil))))
    (sRet (eNewL (aCons (eVar 1) (aCons (eOpN intF (aCons (eOp2 geD (eVar 1) (eOp2 powD (eK (.int 10)) (eK (.int 18)))) aNil)) (aCons (eOp2 modD (eVar 1) (eK (.int 1000003))) aNil))))))
noncomputable def m__law_pen_of : List Wv → Sto → Rs Wv := mkF 1 2 d__law_pen_of
theorem b__law_pen_of {M : Md} {X : Cx} (T : Hs M)  (c : Cxt M X B__law_pen_of 0) : DB X (defBody s__law_pen_of) d__law_pen_of :=
    (db_cons (ds_set c 1 rfl (by decide) (de_callB (id := "max") c (c_max2 c.calm) 0 rfl T.z_max (by decide +kernel) (da_cons (de_var c 0 rfl (by decide)) (da_cons (de_bin o_sub de_int (de_var c 0 rfl (by decide))) da_nil))))
    (db_one (ds_ret (de_newl (da_cons (de_var c 1 rfl (by decide)) (da_cons (de_callT (T := "int") c c_int 1 rfl T.z_int (by decide +kernel) (da_cons (de_cmp (o_ge c.roomH) (de_var c 1 rfl (by decide)) (de_bin o_pow de_int de_int) (nomark _)) da_nil)) (da_cons (de_bin o_mod (de_var c 1 rfl (by decide)) de_int) da_nil)))))))
theorem h__law_pen_of {M : Md} (T : Hs M)  (F : TopFn M "_law_pen_of" s__law_pen_of ["_law_cell"]) : Has M false 1 "_law_pen_of" ["_law_cell"] m__law_pen_of := has_of F sc__law_pen_of t__law_pen_of rfl rfl (fun X c => b__law_pen_of T  c)
abbrev s__law_cell_at : Stmt := topS 33
def B__law_cell_at : Tb := ⟨["_law_script", "_law_k"], [0, 1], [0, 1], [0, 1], ["len"], [], true, false, none⟩
theorem sc__law_cell_at : FnScope B__law_cell_at.N ["_law_script", "_law_k"] (defScope s__law_cell_at) := ⟨rfl, rfl, rfl, by decide +kernel, rfl, by decide +kernel, by decide +kernel⟩
theorem t__law_cell_at : fnT B__law_cell_at (defScope s__law_cell_at) = true := by decide +kernel
noncomputable def d__law_cell_at : En → Sto → SR :=
    (sSeq (sIf (tBl (eOp2 ltD (eVar 1) (eOpN lenF (aCons (eVar 0) aNil)))) (sRet (eOp2 ixD (eVar 0) (eVar 1))) sNil)
    (sRet (eK (.int 0))))
noncomputable def m__law_cell_at : List Wv → Sto → Rs Wv := mkF 2 2 d__law_cell_at
theorem b__law_cell_at {M : Md} {X : Cx} (T : Hs M)  (c : Cxt M X B__law_cell_at 0) : DB X (defBody s__law_cell_at) d__law_cell_at :=
    (db_cons (ds_if (dt_cmp (o_lt c.roomH) (de_var c 1 rfl (by decide)) (de_callB (id := "len") c c_len 0 rfl T.z_len (by decide +kernel) (da_cons (de_var c 0 rfl (by decide)) da_nil)) (nomark _)) (db_one (ds_ret (de_ix c.roomH (de_var c 0 rfl (by decide)) (de_var c 1 rfl (by decide)) (fun _ _ => rfl)))) db_nil)
    (db_one (ds_ret de_int)))
theorem h__law_cell_at {M : Md} (T : Hs M)  (F : TopFn M "_law_cell_at" s__law_cell_at ["_law_script", "_law_k"]) : Has M false 1 "_law_cell_at" ["_law_script", "_law_k"] m__law_cell_at := has_of F sc__law_cell_at t__law_cell_at rfl rfl (fun X c => b__law_cell_at T  c)
abbrev s__law_next : Stmt := topS 34
def B__law_next : Tb := ⟨["_law_seed"], [0], [0], [0], [], [], true, false, none⟩
theorem sc__law_next : FnScope B__law_next.N ["_law_seed"] (defScope s__law_next) := ⟨rfl, rfl, rfl, by decide +kernel, rfl, by decide +kernel, by decide +kernel⟩
theorem t__law_next : fnT B__law_next (defScope s__law_next) = true := by decide +kernel
noncomputable def d__law_next : En → Sto → SR :=
    (sSeq (sSet 0 (eOp2 modD (eOp2 addD (eVar 0) (eK (.int 7919))) (eK (.int 2147483647))))
    (sRet (eOp2 modD (eOp2 addD (eOp2 addD (eOp2 mulD (eVar 0) (eVar 0)) (eOp2 mulD (eK (.int 48271)) (eVar 0))) (eK (.int 12345))) (eK (.int 2147483629)))))
noncomputable def m__law_next : List Wv → Sto → Rs Wv := mkF 1 1 d__law_next
theorem b__law_next {M : Md} {X : Cx} (T : Hs M)  (c : Cxt M X B__law_next 0) : DB X (defBody s__law_next) d__law_next :=
    (db_cons (ds_set c 0 rfl (by decide) (de_bin o_mod (de_bin o_add (de_var c 0 rfl (by decide)) de_int) de_int))
    (db_one (ds_ret (de_bin o_mod (de_bin o_add (de_bin o_add (de_bin o_mul (de_var c 0 rfl (by decide)) (de_var c 0 rfl (by decide))) (de_bin o_mul de_int (de_var c 0 rfl (by decide)))) de_int) de_int))))
theorem h__law_next {M : Md} (T : Hs M)  (F : TopFn M "_law_next" s__law_next ["_law_seed"]) : Has M false 1 "_law_next" ["_law_seed"] m__law_next := has_of F sc__law_next t__law_next rfl rfl (fun X c => b__law_next T  c)
abbrev s__law_draw : Stmt := topS 36
def B__law_draw : Tb := ⟨["_law_pen", "_law_many", "_law_found"], [0, 1, 2], [0, 1, 2], [0, 1, 2], ["_law_next"], [], true, false, none⟩
theorem sc__law_draw : FnScope B__law_draw.N ["_law_pen", "_law_many"] (defScope s__law_draw) := ⟨rfl, rfl, rfl, by decide +kernel, rfl, by decide +kernel, by decide +kernel⟩
theorem t__law_draw : fnT B__law_draw (defScope s__law_draw) = true := by decide +kernel
noncomputable def d__law_draw : En → Sto → SR :=
    (sSeq (sIf (tAnd2 (tBl (eOp2 eqD (eOp2 ixD (eVar 0) (eK (.int 1))) (eK (.int 1)))) (tBl (eOp2 gtD (eOp2 ixD (eVar 0) (eK (.int 0))) (eK (.int 0))))) (sSeq (sSet 2 (eOp2 modD (eOp2 ixD (eVar 0) (eK (.int 0))) (eVar 1)))
    (sSeq (sIx (eVar 0) (eK (.int 0)) (eOp2 divD (eOp2 ixD (eVar 0) (eK (.int 0))) (eVar 1)))
    (sRet (eVar 2)))) sNil)
    (sSeq (sIx (eVar 0) (eK (.int 2)) (eCall m__law_next (aCons (eOp2 addD (eCall m__law_next (aCons (eOp2 ixD (eVar 0) (eK (.int 2))) aNil)) (eK (.int 7))) aNil)))
    (sRet (eOp2 modD (eOp2 divD (eOp2 ixD (eVar 0) (eK (.int 2))) (eK (.int 64))) (eVar 1)))))
noncomputable def m__law_draw : List Wv → Sto → Rs Wv := mkF 2 3 d__law_draw
theorem b__law_draw {M : Md} {X : Cx} (T : Hs M) (h__law_next : Has M false 1 "_law_next" ["_law_seed"] m__law_next) (c : Cxt M X B__law_draw 1) : DB X (defBody s__law_draw) d__law_draw :=
    (db_cons (ds_if (DW.dt (dw_and (dt_cmp (o_eq c.roomH) (de_ix c.roomH (de_var c 0 rfl (by decide)) de_int (fun _ _ => rfl)) de_int (nomark _)) (dw_and1 (dt_cmp (o_gt c.roomH) (de_ix c.roomH (de_var c 0 rfl (by decide)) de_int (fun _ _ => rfl)) de_int (nomark _))))) (db_cons (ds_set c 2 rfl (by decide) (de_bin o_mod (de_ix c.roomH (de_var c 0 rfl (by decide)) de_int (fun _ _ => rfl)) (de_var c 1 rfl (by decide))))
    (db_cons (ds_setix c (de_var c 0 rfl (by decide)) de_int (de_bin o_div (de_ix c.roomH (de_var c 0 rfl (by decide)) de_int (fun _ _ => rfl)) (de_var c 1 rfl (by decide))))
    (db_one (ds_ret (de_var c 2 rfl (by decide)))))) db_nil)
    (db_cons (ds_setix c (de_var c 0 rfl (by decide)) de_int (de_fn c (h__law_next.up (by decide)) 0 rfl (da_cons (de_bin o_add (de_fn c (h__law_next.up (by decide)) 0 rfl (da_cons (de_ix c.roomH (de_var c 0 rfl (by decide)) de_int (fun _ _ => rfl)) da_nil)) de_int) da_nil)))
    (db_one (ds_ret (de_bin o_mod (de_bin o_div (de_ix c.roomH (de_var c 0 rfl (by decide)) de_int (fun _ _ => rfl)) de_int) (de_var c 1 rfl (by decide)))))))
theorem h__law_draw {M : Md} (T : Hs M) (h__law_next : Has M false 1 "_law_next" ["_law_seed"] m__law_next) (F : TopFn M "_law_draw" s__law_draw ["_law_pen", "_law_many"]) : Has M false 2 "_law_draw" ["_law_pen", "_law_many"] m__law_draw := has_of F sc__law_draw t__law_draw rfl rfl (fun X c => b__law_draw T h__law_next c)
abbrev s__law_small : Stmt := topS 39
def B__law_small : Tb := ⟨["_law_pen", "_law_most", "_law_found", "_law_turn", "_law_shade", ".0", "_law_stone"], [0, 1, 2, 3, 4], [0, 1, 2, 3, 4], [0, 1, 3, 4], ["range", "_law_draw", "tuple", "sorted"], ["_law_found"], true, false, none⟩
theorem sc__law_small : FnScope B__law_small.N ["_law_pen", "_law_most"] (defScope s__law_small) := ⟨rfl, rfl, rfl, by decide +kernel, rfl, by decide +kernel, by decide +kernel⟩
theorem t__law_small : fnT B__law_small (defScope s__law_small) = true := by decide +kernel
noncomputable def d__law_small_l1 : En → Sto → SR :=
    (sWp [3, 4] (sSeq (sSet 4 (eOp2 ixD (eLst (aCons (eCall m__law_draw (aCons (eVar 0) (aCons (eK (.int 21)) aNil))) (aCons (eCall m__law_draw (aCons (eVar 0) (aCons (eK (.int 5)) aNil))) aNil))) (eCall m__law_draw (aCons (eVar 0) (aCons (eK (.int 2)) aNil)))))
    (sIxT (eVar 2) (aCons (eVar 4) (aCons (eCall m__law_draw (aCons (eVar 0) (aCons (eK (.int 3)) aNil))) (aCons (eOp2 addD (eK (.int 1)) (eCall m__law_draw (aCons (eVar 0) (aCons (eK (.int 4)) aNil)))) aNil))) (eOp2 addD (eK (.int 1)) (eCall m__law_draw (aCons (eVar 0) (aCons (eOp2 ixD (eLst (aCons (eK (.int 1)) (aCons (eK (.int 2)) (aCons (eK (.int 3)) (aCons (eK (.int 9)) aNil))))) (eCall m__law_draw (aCons (eVar 0) (aCons (eK (.int 4)) aNil)))) aNil)))))))
noncomputable def d__law_small : En → Sto → SR :=
    (sSeq (sSet 2 eNewT)
    (sSeq (sFor (cRg1 (aCons (eCall m__law_draw (aCons (eVar 0) (aCons (eOp2 addD (eVar 1) (eK (.int 1))) aNil))) aNil)) (gN 3) d__law_small_l1)
    (sRet (eOpN tupF (aCons (eOpN (srtF false) (aCons (eSml 6 2) aNil)) aNil)))))
noncomputable def m__law_small : List Wv → Sto → Rs Wv := mkF 2 7 d__law_small
theorem b__law_small {M : Md} {X : Cx} (T : Hs M) (h__law_draw : Has M false 2 "_law_draw" ["_law_pen", "_law_many"] m__law_draw) (c : Cxt M X B__law_small 2) : DB X (defBody s__law_small) d__law_small :=
    (db_cons (ds_set c 2 rfl (by decide) de_newt)
    (db_cons (ds_for c [3] (di_range1 c 0 rfl T.z_range (da_cons (de_fn c (h__law_draw.up (by decide)) 1 rfl (da_cons (de_var c 0 rfl (by decide)) (da_cons (de_bin o_add (de_var c 1 rfl (by decide)) de_int) da_nil))) da_nil)) (dg_name c [3] 3 rfl (by decide) (by decide))
    (db_wp [3, 4] (db_cons (ds_set c 4 rfl (by decide) (de_ix c.roomH (de_lst (da_cons (de_fn c (h__law_draw.up (by decide)) 1 rfl (da_cons (de_var c 0 rfl (by decide)) (da_cons de_int da_nil))) (da_cons (de_fn c (h__law_draw.up (by decide)) 1 rfl (da_cons (de_var c 0 rfl (by decide)) (da_cons de_int da_nil))) da_nil))) (de_fn c (h__law_draw.up (by decide)) 1 rfl (da_cons (de_var c 0 rfl (by decide)) (da_cons de_int da_nil))) (fun _ _ => rfl)))
    (db_one (ds_setixT c (de_var c 2 rfl (by decide)) (da_cons (de_var c 4 rfl (by decide)) (da_cons (de_fn c (h__law_draw.up (by decide)) 1 rfl (da_cons (de_var c 0 rfl (by decide)) (da_cons de_int da_nil))) (da_cons (de_bin o_add de_int (de_fn c (h__law_draw.up (by decide)) 1 rfl (da_cons (de_var c 0 rfl (by decide)) (da_cons de_int da_nil)))) da_nil))) (de_bin o_add de_int (de_fn c (h__law_draw.up (by decide)) 1 rfl (da_cons (de_var c 0 rfl (by decide)) (da_cons (de_ix c.roomH (de_lst (da_cons de_int (da_cons de_int (da_cons de_int (da_cons de_int da_nil))))) (de_fn c (h__law_draw.up (by decide)) 1 rfl (da_cons (de_var c 0 rfl (by decide)) (da_cons de_int da_nil))) (fun _ _ => rfl)) da_nil)))))))))
    (db_one (ds_ret (de_callT (T := "tuple") c c_tup 2 rfl T.z_tuple (by decide +kernel) (da_cons (de_callB (id := "sorted") c (c_sorted c.roomH) 3 rfl T.z_sorted (by decide +kernel) (da_cons (de_sml (i := 6) (j := 2) c [(".0", 5), ("_law_stone", 6)] [5, 6, 2] [5, 6] [] ["_law_found"] (by decide +kernel) rfl rfl (by decide) (by decide) (by decide) rfl (by decide) (by decide) (by decide) (by decide) (by decide) (by decide) (by decide) (by decide)) da_nil)) da_nil))))))
theorem h__law_small {M : Md} (T : Hs M) (h__law_draw : Has M false 2 "_law_draw" ["_law_pen", "_law_many"] m__law_draw) (F : TopFn M "_law_small" s__law_small ["_law_pen", "_law_most"]) : Has M false 3 "_law_small" ["_law_pen", "_law_most"] m__law_small := has_of F sc__law_small t__law_small rfl rfl (fun X c => b__law_small T h__law_draw c)
abbrev s__law_drawing : Stmt := topS 38
def B__law_drawing : Tb := ⟨["_law_pen", ".0", "_law_turn"], [0], [0], [], ["tuple", "range", "_law_draw"], ["_law_pen"], true, false, none⟩
theorem sc__law_drawing : FnScope B__law_drawing.N ["_law_pen"] (defScope s__law_drawing) := ⟨rfl, rfl, rfl, by decide +kernel, rfl, by decide +kernel, by decide +kernel⟩
theorem t__law_drawing : fnT B__law_drawing (defScope s__law_drawing) = true := by decide +kernel
noncomputable def d__law_drawing : En → Sto → SR :=
    (sRet (eOpN tupF (aCons (eLc (cRg1 (aCons (eOp2 addD (eK (.int 1)) (eCall m__law_draw (aCons (eVar 0) (aCons (eK (.int 8)) aNil)))) aNil)) (gN 2) tYs (eOp2 ixD (eLst (aCons (eCall m__law_draw (aCons (eVar 0) (aCons (eK (.int 21)) aNil))) (aCons (eCall m__law_draw (aCons (eVar 0) (aCons (eK (.int 5)) aNil))) aNil))) (eCall m__law_draw (aCons (eVar 0) (aCons (eK (.int 2)) aNil)))) [1, 2]) aNil)))
noncomputable def m__law_drawing : List Wv → Sto → Rs Wv := mkF 1 3 d__law_drawing
theorem b__law_drawing {M : Md} {X : Cx} (T : Hs M) (h__law_draw : Has M false 2 "_law_draw" ["_law_pen", "_law_many"] m__law_draw) (c : Cxt M X B__law_drawing 2) : DB X (defBody s__law_drawing) d__law_drawing :=
    (db_one (ds_ret (de_callT (T := "tuple") c c_tup 0 rfl T.z_tuple (by decide +kernel) (da_cons (de_lc c (lc_ok c [(".0", 1), ("_law_turn", 2)] [1, 2, 0] [1, 2] ["_law_draw"] ["_law_pen"] (by decide +kernel) (di_range1 c 1 rfl T.z_range (da_cons (de_bin o_add de_int (de_fn c (h__law_draw.up (by decide)) 2 rfl (da_cons (de_var c 0 rfl (by decide)) (da_cons de_int da_nil)))) da_nil)) (by decide) (fun _ c2 => (dg_name c2 [1, 2] 2 rfl (by decide) (by decide))) (fun _ c2 => dts_nil) (fun _ c2 => (de_ix c2.roomH (de_lst (da_cons (de_fn c2 (h__law_draw.up (by decide)) 0 rfl (da_cons (de_var c2 0 rfl (by decide)) (da_cons de_int da_nil))) (da_cons (de_fn c2 (h__law_draw.up (by decide)) 0 rfl (da_cons (de_var c2 0 rfl (by decide)) (da_cons de_int da_nil))) da_nil))) (de_fn c2 (h__law_draw.up (by decide)) 0 rfl (da_cons (de_var c2 0 rfl (by decide)) (da_cons de_int da_nil))) (fun _ _ => rfl))))) da_nil))))
theorem h__law_drawing {M : Md} (T : Hs M) (h__law_draw : Has M false 2 "_law_draw" ["_law_pen", "_law_many"] m__law_draw) (F : TopFn M "_law_drawing" s__law_drawing ["_law_pen"]) : Has M false 3 "_law_drawing" ["_law_pen"] m__law_drawing := has_of F sc__law_drawing t__law_drawing rfl rfl (fun X c => b__law_drawing T h__law_draw c)
abbrev s_is_whole : Stmt := topS 11
def B_is_whole : Tb := ⟨["thing", "least", "most"], [0, 1, 2], [0, 1, 2], [0, 1, 2], ["isinstance", "int", "bool"], [], true, false, none⟩
theorem sc_is_whole : FnScope B_is_whole.N ["thing", "least", "most"] (defScope s_is_whole) := ⟨rfl, rfl, rfl, by decide +kernel, rfl, by decide +kernel, by decide +kernel⟩
theorem t_is_whole : fnT B_is_whole (defScope s_is_whole) = true := by decide +kernel
noncomputable def d_is_whole : En → Sto → SR :=
    (sRet (eAnd2 (eOp1 (isaD "int") (eVar 0)) (eAnd2 (eNot1 (eOp1 (isaD "bool") (eVar 0))) (eChain leD leD (eVar 1) (eVar 0) (eVar 2)))))
noncomputable def m_is_whole : List Wv → Sto → Rs Wv := mkF 3 3 d_is_whole
theorem b_is_whole {M : Md} {X : Cx} (T : Hs M)  (c : Cxt M X B_is_whole 0) : DB X (defBody s_is_whole) d_is_whole :=
    (db_one (ds_ret (de_and (de_isa c 0 1 rfl T.z_isinstance rfl T.z_int (by decide +kernel) (de_var c 0 rfl (by decide))) (de_and (de_not (de_isa c 0 2 rfl T.z_isinstance rfl T.z_bool (by decide +kernel) (de_var c 0 rfl (by decide)))) (de_one (de_chain (o_le c.roomH) (o_le c.roomH) (de_var c 1 rfl (by decide)) (de_var c 0 rfl (by decide)) (de_var c 2 rfl (by decide))))))))
theorem h_is_whole {M : Md} (T : Hs M)  (F : TopFn M "is_whole" s_is_whole ["thing", "least", "most"]) : Has M false 1 "is_whole" ["thing", "least", "most"] m_is_whole := has_of F sc_is_whole t_is_whole rfl rfl (fun X c => b_is_whole T  c)
abbrev s_is_stone : Stmt := topS 13
def B_is_stone : Tb := ⟨["thing"], [0], [0], [0], ["isinstance", "tuple", "len", "is_whole", "MOST_SHADE", "MOST_BATCH", "MOST_LONG"], [], true, false, none⟩
theorem sc_is_stone : FnScope B_is_stone.N ["thing"] (defScope s_is_stone) := ⟨rfl, rfl, rfl, by decide +kernel, rfl, by decide +kernel, by decide +kernel⟩
theorem t_is_stone : fnT B_is_stone (defScope s_is_stone) = true := by decide +kernel
noncomputable def d_is_stone : En → Sto → SR :=
    (sSeq (sIf (tOr2 (tNot1 (tTru (eOp1 (isaD "tuple") (eVar 0)))) (tBl (eOp2 neD (eOpN lenF (aCons (eVar 0) aNil)) (eK (.int 3))))) (sRet (eK (.bool false))) sNil)
    (sRet (eAnd2 (eCall m_is_whole (aCons (eOp2 ixD (eVar 0) (eK (.int 0))) (aCons (eK (.int 0)) (aCons (eK w_MOST_SHADE) aNil)))) (eAnd2 (eCall m_is_whole (aCons (eOp2 ixD (eVar 0) (eK (.int 1))) (aCons (eK (.int 0)) (aCons (eK w_MOST_BATCH) aNil)))) (eCall m_is_whole (aCons (eOp2 ixD (eVar 0) (eK (.int 2))) (aCons (eK (.int 1)) (aCons (eK w_MOST_LONG) aNil))))))))
noncomputable def m_is_stone : List Wv → Sto → Rs Wv := mkF 1 1 d_is_stone
theorem b_is_stone {M : Md} {X : Cx} (T : Hs M) (h_is_whole : Has M false 1 "is_whole" ["thing", "least", "most"] m_is_whole) (c : Cxt M X B_is_stone 1) : DB X (defBody s_is_stone) d_is_stone :=
    (db_cons (ds_if (DW.dt (dw_or (dt_not (dt_val (de_isa c 0 1 rfl T.z_isinstance rfl T.z_tuple (by decide +kernel) (de_var c 0 rfl (by decide))))) (dw_or1 (dt_cmp (o_ne c.roomH) (de_callB (id := "len") c c_len 2 rfl T.z_len (by decide +kernel) (da_cons (de_var c 0 rfl (by decide)) da_nil)) de_int (nomark _))))) (db_one (ds_ret de_bl)) db_nil)
    (db_one (ds_ret (de_and (de_fn c (h_is_whole.up (by decide)) 3 rfl (da_cons (de_ix c.roomH (de_var c 0 rfl (by decide)) de_int (fun _ _ => rfl)) (da_cons de_int (da_cons (q_MOST_SHADE T c 4 rfl) da_nil)))) (de_and (de_fn c (h_is_whole.up (by decide)) 3 rfl (da_cons (de_ix c.roomH (de_var c 0 rfl (by decide)) de_int (fun _ _ => rfl)) (da_cons de_int (da_cons (q_MOST_BATCH T c 5 rfl) da_nil)))) (de_one (de_fn c (h_is_whole.up (by decide)) 3 rfl (da_cons (de_ix c.roomH (de_var c 0 rfl (by decide)) de_int (fun _ _ => rfl)) (da_cons de_int (da_cons (q_MOST_LONG T c 6 rfl) da_nil))))))))))
theorem h_is_stone {M : Md} (T : Hs M) (h_is_whole : Has M false 1 "is_whole" ["thing", "least", "most"] m_is_whole) (F : TopFn M "is_stone" s_is_stone ["thing"]) : Has M false 2 "is_stone" ["thing"] m_is_stone := has_of F sc_is_stone t_is_stone rfl rfl (fun X c => b_is_stone T h_is_whole c)
abbrev s_is_many : Stmt := topS 12
def B_is_many : Tb := ⟨["thing"], [0], [0], [0], ["isinstance", "int", "bool"], [], true, false, none⟩
theorem sc_is_many : FnScope B_is_many.N ["thing"] (defScope s_is_many) := ⟨rfl, rfl, rfl, by decide +kernel, rfl, by decide +kernel, by decide +kernel⟩
theorem t_is_many : fnT B_is_many (defScope s_is_many) = true := by decide +kernel
noncomputable def d_is_many : En → Sto → SR :=
    (sRet (eAnd2 (eOp1 (isaD "int") (eVar 0)) (eAnd2 (eNot1 (eOp1 (isaD "bool") (eVar 0))) (eOp2 geD (eVar 0) (eK (.int 1))))))
noncomputable def m_is_many : List Wv → Sto → Rs Wv := mkF 1 1 d_is_many
theorem b_is_many {M : Md} {X : Cx} (T : Hs M)  (c : Cxt M X B_is_many 0) : DB X (defBody s_is_many) d_is_many :=
    (db_one (ds_ret (de_and (de_isa c 0 1 rfl T.z_isinstance rfl T.z_int (by decide +kernel) (de_var c 0 rfl (by decide))) (de_and (de_not (de_isa c 0 2 rfl T.z_isinstance rfl T.z_bool (by decide +kernel) (de_var c 0 rfl (by decide)))) (de_one (de_cmp (o_ge c.roomH) (de_var c 0 rfl (by decide)) de_int (nomark _)))))))
theorem h_is_many {M : Md} (T : Hs M)  (F : TopFn M "is_many" s_is_many ["thing"]) : Has M false 1 "is_many" ["thing"] m_is_many := has_of F sc_is_many t_is_many rfl rfl (fun X c => b_is_many T  c)
abbrev s_is_kind : Stmt := topS 14
def B_is_kind : Tb := ⟨["thing"], [0], [0], [0], ["isinstance", "tuple", "len", "is_stone", "is_many"], [], true, false, none⟩
theorem sc_is_kind : FnScope B_is_kind.N ["thing"] (defScope s_is_kind) := ⟨rfl, rfl, rfl, by decide +kernel, rfl, by decide +kernel, by decide +kernel⟩
theorem t_is_kind : fnT B_is_kind (defScope s_is_kind) = true := by decide +kernel
noncomputable def d_is_kind : En → Sto → SR :=
    (sRet (eAnd2 (eOp1 (isaD "tuple") (eVar 0)) (eAnd2 (eOp2 eqD (eOpN lenF (aCons (eVar 0) aNil)) (eK (.int 4))) (eAnd2 (eCall m_is_stone (aCons (eSlice (eVar 0) pNo (pSome (eK (.int 3)))) aNil)) (eCall m_is_many (aCons (eOp2 ixD (eVar 0) (eK (.int 3))) aNil))))))
noncomputable def m_is_kind : List Wv → Sto → Rs Wv := mkF 1 1 d_is_kind
theorem b_is_kind {M : Md} {X : Cx} (T : Hs M) (h_is_many : Has M false 1 "is_many" ["thing"] m_is_many) (h_is_stone : Has M false 2 "is_stone" ["thing"] m_is_stone) (c : Cxt M X B_is_kind 2) : DB X (defBody s_is_kind) d_is_kind :=
    (db_one (ds_ret (de_and (de_isa c 0 1 rfl T.z_isinstance rfl T.z_tuple (by decide +kernel) (de_var c 0 rfl (by decide))) (de_and (de_cmp (o_eq c.roomH) (de_callB (id := "len") c c_len 2 rfl T.z_len (by decide +kernel) (da_cons (de_var c 0 rfl (by decide)) da_nil)) de_int (nomark _)) (de_and (de_fn c (h_is_stone.up (by decide)) 3 rfl (da_cons (de_slice (de_var c 0 rfl (by decide)) do_no (do_some de_int)) da_nil)) (de_one (de_fn c (h_is_many.up (by decide)) 4 rfl (da_cons (de_ix c.roomH (de_var c 0 rfl (by decide)) de_int (fun _ _ => rfl)) da_nil))))))))
theorem h_is_kind {M : Md} (T : Hs M) (h_is_many : Has M false 1 "is_many" ["thing"] m_is_many) (h_is_stone : Has M false 2 "is_stone" ["thing"] m_is_stone) (F : TopFn M "is_kind" s_is_kind ["thing"]) : Has M false 3 "is_kind" ["thing"] m_is_kind := has_of F sc_is_kind t_is_kind rfl rfl (fun X c => b_is_kind T h_is_many h_is_stone c)
abbrev s_is_stock : Stmt := topS 15
def B_is_stock : Tb := ⟨["thing", ".0", "one", "later"], [0], [0], [0], ["isinstance", "tuple", "len", "MOST_KINDS", "all", "zip"], [], true, false, none⟩
theorem sc_is_stock : FnScope B_is_stock.N ["thing"] (defScope s_is_stock) := ⟨rfl, rfl, rfl, by decide +kernel, rfl, by decide +kernel, by decide +kernel⟩
theorem t_is_stock : fnT B_is_stock (defScope s_is_stock) = true := by decide +kernel
noncomputable def d_is_stock : En → Sto → SR :=
    (sSeq (sIf (tOr2 (tNot1 (tTru (eOp1 (isaD "tuple") (eVar 0)))) (tOr2 (tBl (eOp2 gtD (eOpN lenF (aCons (eVar 0) aNil)) (eK w_MOST_KINDS))) (tNot1 (tTru (eOpN allF (aCons (eLc (cSeq (eVar 0)) (gN 2) tYs (eCall m_is_kind (aCons (eVar 2) aNil)) [1, 2]) aNil)))))) (sRet (eK (.bool false))) sNil)
    (sRet (eOpN allF (aCons (eLc (cZip2 (aCons (eVar 0) (aCons (eSlice (eVar 0) (pSome (eK (.int 1))) pNo) aNil))) (gTp (gCn (gN 2) (gCn (gN 3) gNl))) tYs (eOp2 ltD (eSlice (eVar 2) pNo (pSome (eK (.int 3)))) (eSlice (eVar 3) pNo (pSome (eK (.int 3))))) [1, 2, 3]) aNil))))
noncomputable def m_is_stock : List Wv → Sto → Rs Wv := mkF 1 4 d_is_stock
theorem b_is_stock {M : Md} {X : Cx} (T : Hs M) (h_is_kind : Has M false 3 "is_kind" ["thing"] m_is_kind) (c : Cxt M X B_is_stock 3) : DB X (defBody s_is_stock) d_is_stock :=
    (db_cons (ds_if (DW.dt (dw_or (dt_not (dt_val (de_isa c 0 1 rfl T.z_isinstance rfl T.z_tuple (by decide +kernel) (de_var c 0 rfl (by decide))))) (dw_or (dt_cmp (o_gt c.roomH) (de_callB (id := "len") c c_len 2 rfl T.z_len (by decide +kernel) (da_cons (de_var c 0 rfl (by decide)) da_nil)) (q_MOST_KINDS T c 3 rfl) (nomark _)) (dw_or1 (dt_not (dt_val (de_callB (id := "all") c (c_all c.calm) 4 rfl T.z_all (by decide +kernel) (da_cons (de_lc c (lc_ok c [(".0", 1), ("one", 2)] [1, 2] [1, 2] ["is_kind"] [] (by decide +kernel) (di_seq (de_var c 0 rfl (by decide))) (by decide) (fun _ c3 => (dg_name c3 [1, 2] 2 rfl (by decide) (by decide))) (fun _ c3 => dts_nil) (fun _ c3 => (de_fn c3 (h_is_kind.up (by decide)) 0 rfl (da_cons (de_var c3 2 rfl (by decide)) da_nil))))) da_nil)))))))) (db_one (ds_ret de_bl)) db_nil)
    (db_one (ds_ret (de_callB (id := "all") c (c_all c.calm) 4 rfl T.z_all (by decide +kernel) (da_cons (de_lc c (lc_ok c [(".0", 1), ("one", 2), ("later", 3)] [1, 2, 3] [1, 2, 3] [] [] (by decide +kernel) (di_zip2 c 5 rfl T.z_zip (da_cons (de_var c 0 rfl (by decide)) (da_cons (de_slice (de_var c 0 rfl (by decide)) (do_some de_int) do_no) da_nil))) (by decide) (fun _ c4 => (dg_tup c4 (dgs_cons (dg_name c4 [1, 2, 3] 2 rfl (by decide) (by decide)) (dgs_cons (dg_name c4 [1, 2, 3] 3 rfl (by decide) (by decide)) (dgs_nil [1, 2, 3]))) (asks_cons (asks_cons asks_nil)))) (fun _ c4 => dts_nil) (fun _ c4 => (de_cmp (o_lt c4.roomH) (de_slice (de_var c4 2 rfl (by decide)) do_no (do_some de_int)) (de_slice (de_var c4 3 rfl (by decide)) do_no (do_some de_int)) (nomark _))))) da_nil)))))
theorem h_is_stock {M : Md} (T : Hs M) (h_is_kind : Has M false 3 "is_kind" ["thing"] m_is_kind) (F : TopFn M "is_stock" s_is_stock ["thing"]) : Has M false 4 "is_stock" ["thing"] m_is_stock := has_of F sc_is_stock t_is_stock rfl rfl (fun X c => b_is_stock T h_is_kind c)
abbrev s_need_stock : Stmt := topS 16
def B_need_stock : Tb := ⟨["thing"], [0], [0], [0], ["is_stock", "NoStock"], [], true, false, none⟩
theorem sc_need_stock : FnScope B_need_stock.N ["thing"] (defScope s_need_stock) := ⟨rfl, rfl, rfl, by decide +kernel, rfl, by decide +kernel, by decide +kernel⟩
theorem t_need_stock : fnT B_need_stock (defScope s_need_stock) = true := by decide +kernel
noncomputable def d_need_stock : En → Sto → SR :=
    (sIf (tNot1 (tTru (eCall m_is_stock (aCons (eVar 0) aNil)))) sNo sNil)
noncomputable def m_need_stock : List Wv → Sto → Rs Wv := mkF 1 1 d_need_stock
theorem b_need_stock {M : Md} {X : Cx} (T : Hs M) (h_is_stock : Has M false 4 "is_stock" ["thing"] m_is_stock) (c : Cxt M X B_need_stock 4) : DB X (defBody s_need_stock) d_need_stock :=
    (db_one (ds_if (dt_not (dt_val (de_fn c (h_is_stock.up (by decide)) 0 rfl (da_cons (de_var c 0 rfl (by decide)) da_nil)))) (db_one ds_no) db_nil))
theorem h_need_stock {M : Md} (T : Hs M) (h_is_stock : Has M false 4 "is_stock" ["thing"] m_is_stock) (F : TopFn M "need_stock" s_need_stock ["thing"]) : Has M false 5 "need_stock" ["thing"] m_need_stock := has_of F sc_need_stock t_need_stock rfl rfl (fun X c => b_need_stock T h_is_stock c)
abbrev s_is_drawing : Stmt := topS 21
def B_is_drawing : Tb := ⟨["thing", ".0", "one"], [0], [0], [0], ["isinstance", "tuple", "len", "MOST_PLACES", "all"], [], true, false, none⟩
theorem sc_is_drawing : FnScope B_is_drawing.N ["thing"] (defScope s_is_drawing) := ⟨rfl, rfl, rfl, by decide +kernel, rfl, by decide +kernel, by decide +kernel⟩
theorem t_is_drawing : fnT B_is_drawing (defScope s_is_drawing) = true := by decide +kernel
noncomputable def d_is_drawing : En → Sto → SR :=
    (sSeq (sIf (tOr2 (tNot1 (tTru (eOp1 (isaD "tuple") (eVar 0)))) (tNot1 (tBl (eChain leD leD (eK (.int 1)) (eOpN lenF (aCons (eVar 0) aNil)) (eK w_MOST_PLACES))))) (sRet (eK (.bool false))) sNil)
    (sRet (eOpN allF (aCons (eLc (cSeq (eVar 0)) (gN 2) tYs (eCall m_is_whole (aCons (eVar 2) (aCons (eK (.int 0)) (aCons (eK w_MOST_SHADE) aNil)))) [1, 2]) aNil))))
noncomputable def m_is_drawing : List Wv → Sto → Rs Wv := mkF 1 3 d_is_drawing
theorem b_is_drawing {M : Md} {X : Cx} (T : Hs M) (h_is_whole : Has M false 1 "is_whole" ["thing", "least", "most"] m_is_whole) (c : Cxt M X B_is_drawing 1) : DB X (defBody s_is_drawing) d_is_drawing :=
    (db_cons (ds_if (DW.dt (dw_or (dt_not (dt_val (de_isa c 0 1 rfl T.z_isinstance rfl T.z_tuple (by decide +kernel) (de_var c 0 rfl (by decide))))) (dw_or1 (dt_not (dt_chain (o_le c.roomH) (o_le c.roomH) de_int (de_callB (id := "len") c c_len 2 rfl T.z_len (by decide +kernel) (da_cons (de_var c 0 rfl (by decide)) da_nil)) (q_MOST_PLACES T c 3 rfl)))))) (db_one (ds_ret de_bl)) db_nil)
    (db_one (ds_ret (de_callB (id := "all") c (c_all c.calm) 4 rfl T.z_all (by decide +kernel) (da_cons (de_lc c (lc_ok c [(".0", 1), ("one", 2)] [1, 2] [1, 2] ["is_whole", "MOST_SHADE"] [] (by decide +kernel) (di_seq (de_var c 0 rfl (by decide))) (by decide) (fun _ c5 => (dg_name c5 [1, 2] 2 rfl (by decide) (by decide))) (fun _ c5 => dts_nil) (fun _ c5 => (de_fn c5 (h_is_whole.up (by decide)) 0 rfl (da_cons (de_var c5 2 rfl (by decide)) (da_cons de_int (da_cons (q_MOST_SHADE T c5 1 rfl) da_nil))))))) da_nil)))))
theorem h_is_drawing {M : Md} (T : Hs M) (h_is_whole : Has M false 1 "is_whole" ["thing", "least", "most"] m_is_whole) (F : TopFn M "is_drawing" s_is_drawing ["thing"]) : Has M false 2 "is_drawing" ["thing"] m_is_drawing := has_of F sc_is_drawing t_is_drawing rfl rfl (fun X c => b_is_drawing T h_is_whole c)
abbrev s_need_drawing : Stmt := topS 22
def B_need_drawing : Tb := ⟨["thing"], [0], [0], [0], ["is_drawing", "NoDrawing"], [], true, false, none⟩
theorem sc_need_drawing : FnScope B_need_drawing.N ["thing"] (defScope s_need_drawing) := ⟨rfl, rfl, rfl, by decide +kernel, rfl, by decide +kernel, by decide +kernel⟩
theorem t_need_drawing : fnT B_need_drawing (defScope s_need_drawing) = true := by decide +kernel
noncomputable def d_need_drawing : En → Sto → SR :=
    (sIf (tNot1 (tTru (eCall m_is_drawing (aCons (eVar 0) aNil)))) sNo sNil)
noncomputable def m_need_drawing : List Wv → Sto → Rs Wv := mkF 1 1 d_need_drawing
theorem b_need_drawing {M : Md} {X : Cx} (T : Hs M) (h_is_drawing : Has M false 2 "is_drawing" ["thing"] m_is_drawing) (c : Cxt M X B_need_drawing 2) : DB X (defBody s_need_drawing) d_need_drawing :=
    (db_one (ds_if (dt_not (dt_val (de_fn c (h_is_drawing.up (by decide)) 0 rfl (da_cons (de_var c 0 rfl (by decide)) da_nil)))) (db_one ds_no) db_nil))
theorem h_need_drawing {M : Md} (T : Hs M) (h_is_drawing : Has M false 2 "is_drawing" ["thing"] m_is_drawing) (F : TopFn M "need_drawing" s_need_drawing ["thing"]) : Has M false 3 "need_drawing" ["thing"] m_need_drawing := has_of F sc_need_drawing t_need_drawing rfl rfl (fun X c => b_need_drawing T h_is_drawing c)
abbrev s_need_few : Stmt := topS 23
def B_need_few : Tb := ⟨["stock"], [0], [0], [0], ["len", "MOST_KINDS_HERE", "TooGreat"], [], true, false, none⟩
theorem sc_need_few : FnScope B_need_few.N ["stock"] (defScope s_need_few) := ⟨rfl, rfl, rfl, by decide +kernel, rfl, by decide +kernel, by decide +kernel⟩
theorem t_need_few : fnT B_need_few (defScope s_need_few) = true := by decide +kernel
noncomputable def d_need_few : En → Sto → SR :=
    (sIf (tBl (eOp2 gtD (eOpN lenF (aCons (eVar 0) aNil)) (eK w_MOST_KINDS_HERE))) sNo sNil)
noncomputable def m_need_few : List Wv → Sto → Rs Wv := mkF 1 1 d_need_few
theorem b_need_few {M : Md} {X : Cx} (T : Hs M)  (c : Cxt M X B_need_few 0) : DB X (defBody s_need_few) d_need_few :=
    (db_one (ds_if (dt_cmp (o_gt c.roomH) (de_callB (id := "len") c c_len 0 rfl T.z_len (by decide +kernel) (da_cons (de_var c 0 rfl (by decide)) da_nil)) (q_MOST_KINDS_HERE T c 1 rfl) (nomark _)) (db_one ds_no) db_nil))
theorem h_need_few {M : Md} (T : Hs M)  (F : TopFn M "need_few" s_need_few ["stock"]) : Has M false 1 "need_few" ["stock"] m_need_few := has_of F sc_need_few t_need_few rfl rfl (fun X c => b_need_few T  c)
abbrev s_cost_of : Stmt := topS 24
def B_cost_of : Tb := ⟨["stock", "drawing", "place", "number"], [0, 1, 2, 3], [0, 1, 2, 3], [0, 1, 2, 3], ["abs"], [], true, false, none⟩
theorem sc_cost_of : FnScope B_cost_of.N ["stock", "drawing", "place", "number"] (defScope s_cost_of) := ⟨rfl, rfl, rfl, by decide +kernel, rfl, by decide +kernel, by decide +kernel⟩
theorem t_cost_of : fnT B_cost_of (defScope s_cost_of) = true := by decide +kernel
noncomputable def d_cost_of : En → Sto → SR :=
    (sRet (eOpN absF (aCons (eOp2 subD (eOp2 ixD (eOp2 ixD (eVar 0) (eVar 3)) (eK (.int 0))) (eOp2 ixD (eVar 1) (eVar 2))) aNil)))
noncomputable def m_cost_of : List Wv → Sto → Rs Wv := mkF 4 4 d_cost_of
theorem b_cost_of {M : Md} {X : Cx} (T : Hs M)  (c : Cxt M X B_cost_of 0) : DB X (defBody s_cost_of) d_cost_of :=
    (db_one (ds_ret (de_callB (id := "abs") c c_abs 0 rfl T.z_abs (by decide +kernel) (da_cons (de_bin o_sub (de_ix c.roomH (de_ix c.roomH (de_var c 0 rfl (by decide)) (de_var c 3 rfl (by decide)) (fun _ _ => rfl)) de_int (fun _ _ => rfl)) (de_ix c.roomH (de_var c 1 rfl (by decide)) (de_var c 2 rfl (by decide)) (fun _ _ => rfl))) da_nil))))
theorem h_cost_of {M : Md} (T : Hs M)  (F : TopFn M "cost_of" s_cost_of ["stock", "drawing", "place", "number"]) : Has M false 1 "cost_of" ["stock", "drawing", "place", "number"] m_cost_of := has_of F sc_cost_of t_cost_of rfl rfl (fun X c => b_cost_of T  c)
abbrev s_near_kinds : Stmt := topS 25
def B_near_kinds : Tb := ⟨["stock", "drawing", "place", "most", ".0", "number"], [0, 1, 2, 3], [0, 1, 2, 3], [], ["range", "len"], ["stock", "drawing", "place", "most"], true, false, none⟩
theorem sc_near_kinds : FnScope B_near_kinds.N ["stock", "drawing", "place", "most"] (defScope s_near_kinds) := ⟨rfl, rfl, rfl, by decide +kernel, rfl, by decide +kernel, by decide +kernel⟩
theorem t_near_kinds : fnT B_near_kinds (defScope s_near_kinds) = true := by decide +kernel
noncomputable def d_near_kinds : En → Sto → SR :=
    (sRet (eLc (cRg1 (aCons (eOpN lenF (aCons (eVar 0) aNil)) aNil)) (gN 5) (tBl (eOp2 leD (eCall m_cost_of (aCons (eVar 0) (aCons (eVar 1) (aCons (eVar 2) (aCons (eVar 5) aNil))))) (eVar 3))) (eVar 5) [4, 5]))
noncomputable def m_near_kinds : List Wv → Sto → Rs Wv := mkF 4 6 d_near_kinds
theorem b_near_kinds {M : Md} {X : Cx} (T : Hs M) (h_cost_of : Has M false 1 "cost_of" ["stock", "drawing", "place", "number"] m_cost_of) (c : Cxt M X B_near_kinds 1) : DB X (defBody s_near_kinds) d_near_kinds :=
    (db_one (ds_ret (de_lc c (lc_ok c [(".0", 4), ("number", 5)] [4, 5, 1, 3, 2, 0] [4, 5] ["cost_of"] ["drawing", "most", "place", "stock"] (by decide +kernel) (di_range1 c 0 rfl T.z_range (da_cons (de_callB (id := "len") c c_len 1 rfl T.z_len (by decide +kernel) (da_cons (de_var c 0 rfl (by decide)) da_nil)) da_nil)) (by decide) (fun _ c6 => (dg_name c6 [4, 5] 5 rfl (by decide) (by decide))) (fun _ c6 => (dts_one (dt_cmp (o_le c6.roomH) (de_fn c6 (h_cost_of.up (by decide)) 0 rfl (da_cons (de_var c6 0 rfl (by decide)) (da_cons (de_var c6 1 rfl (by decide)) (da_cons (de_var c6 2 rfl (by decide)) (da_cons (de_var c6 5 rfl (by decide)) da_nil))))) (de_var c6 3 rfl (by decide)) (nomark _)))) (fun _ c6 => (de_var c6 5 rfl (by decide)))))))
theorem h_near_kinds {M : Md} (T : Hs M) (h_cost_of : Has M false 1 "cost_of" ["stock", "drawing", "place", "number"] m_cost_of) (F : TopFn M "near_kinds" s_near_kinds ["stock", "drawing", "place", "most"]) : Has M false 2 "near_kinds" ["stock", "drawing", "place", "most"] m_near_kinds := has_of F sc_near_kinds t_near_kinds rfl rfl (fun X c => b_near_kinds T h_cost_of c)
theorem has_no {M : Md} {g : Bool} {k : Nat} {x : Str} {sf : Stmt} {ps : List Str} (T : TopFn M x sf ps) : Has M g k x ps (fun _ _ => .no) := by
  obtain ⟨f, od, an, sl, oc, kV, dc, pm, cd, ct, h1, h2, h3, h4, h5⟩ := T.at'
  exact ⟨f, _, h1, h4, h5, ⟨fun _ _ _ _ h => h.elim, by intros; rename_i h; exact h.elim⟩⟩
abbrev s_makes_room : Stmt := topS 26
def B_makes_room : Tb := ⟨["stock", "drawing", "most", "pick", "place", "seen", "number", "other", ".0", "one"], [0, 1, 2, 3, 4, 5, 6, 7], [0, 1, 2, 3, 4, 5, 6, 7], [0, 1, 2, 4, 5, 7], ["near_kinds", "range", "len", "makes_room"], ["pick", "number"], true, false, none⟩
theorem sc_makes_room : FnScope B_makes_room.N ["stock", "drawing", "most", "pick", "place", "seen"] (defScope s_makes_room) := ⟨rfl, rfl, rfl, by decide +kernel, rfl, by decide +kernel, by decide +kernel⟩
theorem t_makes_room : fnT B_makes_room (defScope s_makes_room) = true := by decide +kernel
noncomputable def d_makes_room_l1 (mr : List Wv → Sto → Rs Wv) : En → Sto → SR :=
    (sWp [7] (sIf (tTru (eCall mr (aCons (eVar 0) (aCons (eVar 1) (aCons (eVar 2) (aCons (eVar 3) (aCons (eVar 7) (aCons (eVar 5) aNil)))))))) (sSeq (sIx (eVar 3) (eVar 4) (eVar 6))
    (sRet (eK (.bool true)))) sNil))
noncomputable def d_makes_room_l2 (mr : List Wv → Sto → Rs Wv) : En → Sto → SR :=
    (sWp [6, 7] (sIf (tBl (eOp2 niD (eVar 6) (eVar 5))) (sSeq (sExp (eM appW (eVar 5) (aCons (eVar 6) aNil)))
    (sSeq (sIf (tBl (eOp2 ltD (eMd cntD (eVar 3) (aCons (eVar 6) aNil)) (eOp2 ixD (eOp2 ixD (eVar 0) (eVar 6)) (eK (.int 3))))) (sSeq (sIx (eVar 3) (eVar 4) (eVar 6))
    (sRet (eK (.bool true)))) sNil)
    (sFor (cSeq (eLc (cRg1 (aCons (eOpN lenF (aCons (eVar 3) aNil)) aNil)) (gN 9) (tBl (eOp2 eqD (eOp2 ixD (eVar 3) (eVar 9)) (eVar 6))) (eVar 9) [8, 9])) (gN 7) (d_makes_room_l1 mr)))) sNil))
noncomputable def d_makes_room (mr : List Wv → Sto → Rs Wv) : En → Sto → SR :=
    (sSeq (sFor (cSeq (eCall m_near_kinds (aCons (eVar 0) (aCons (eVar 1) (aCons (eVar 4) (aCons (eVar 2) aNil)))))) (gN 6) (d_makes_room_l2 mr))
    (sRet (eK (.bool false))))
noncomputable def m_makes_room : Nat → List Wv → Sto → Rs Wv
  | 0 => fun _ _ => .no
  | n + 1 => mkF 6 10 (d_makes_room (m_makes_room n))
theorem b_makes_room {M : Md} {X : Cx} (T : Hs M) (h_near_kinds : Has M false 2 "near_kinds" ["stock", "drawing", "place", "most"] m_near_kinds) {n : Nat} {mr : List Wv → Sto → Rs Wv} (h_makes_room : Has M false (2 + n) "makes_room" ["stock", "drawing", "most", "pick", "place", "seen"] mr) (c : Cxt M X B_makes_room (2 + n)) : DB X (defBody s_makes_room) (d_makes_room mr) :=
    (db_cons (ds_for c [6] (di_seq (de_fn c (h_near_kinds.up (by omega)) 0 rfl (da_cons (de_var c 0 rfl (by decide)) (da_cons (de_var c 1 rfl (by decide)) (da_cons (de_var c 4 rfl (by decide)) (da_cons (de_var c 2 rfl (by decide)) da_nil)))))) (dg_name c [6] 6 rfl (by decide) (by decide))
    (db_wp [6, 7] (db_one (ds_if (dt_cmp (o_ni c.roomH) (de_var c 6 rfl (by decide)) (de_var c 5 rfl (by decide)) rfl) (db_cons (ds_exp (de_append (de_var c 5 rfl (by decide)) (da_cons (de_var c 6 rfl (by decide)) da_nil)))
    (db_cons (ds_if (dt_cmp (o_lt c.roomH) (de_count c (de_var c 3 rfl (by decide)) (da_cons (de_var c 6 rfl (by decide)) da_nil)) (de_ix c.roomH (de_ix c.roomH (de_var c 0 rfl (by decide)) (de_var c 6 rfl (by decide)) (fun _ _ => rfl)) de_int (fun _ _ => rfl)) (nomark _)) (db_cons (ds_setix c (de_var c 3 rfl (by decide)) (de_var c 4 rfl (by decide)) (de_var c 6 rfl (by decide)))
    (db_one (ds_ret de_bl))) db_nil)
    (db_one (ds_for c [7] (di_seq (de_lc c (lc_ok c [(".0", 8), ("one", 9)] [8, 9, 6, 3] [8, 9] [] ["number", "pick"] (by decide +kernel) (di_range1 c 1 rfl T.z_range (da_cons (de_callB (id := "len") c c_len 2 rfl T.z_len (by decide +kernel) (da_cons (de_var c 3 rfl (by decide)) da_nil)) da_nil)) (by decide) (fun _ c7 => (dg_name c7 [8, 9] 9 rfl (by decide) (by decide))) (fun _ c7 => (dts_one (dt_cmp (o_eq c7.roomH) (de_ix c7.roomH (de_var c7 3 rfl (by decide)) (de_var c7 9 rfl (by decide)) (fun _ _ => rfl)) (de_var c7 6 rfl (by decide)) (nomark _)))) (fun _ c7 => (de_var c7 9 rfl (by decide)))))) (dg_name c [7] 7 rfl (by decide) (by decide))
    (db_wp [7] (db_one (ds_if (dt_val (de_fn c (h_makes_room.up (by omega)) 3 rfl (da_cons (de_var c 0 rfl (by decide)) (da_cons (de_var c 1 rfl (by decide)) (da_cons (de_var c 2 rfl (by decide)) (da_cons (de_var c 3 rfl (by decide)) (da_cons (de_var c 7 rfl (by decide)) (da_cons (de_var c 5 rfl (by decide)) da_nil)))))))) (db_cons (ds_setix c (de_var c 3 rfl (by decide)) (de_var c 4 rfl (by decide)) (de_var c 6 rfl (by decide)))
    (db_one (ds_ret de_bl))) db_nil))))))) db_nil))))
    (db_one (ds_ret de_bl)))
theorem h_makes_room {M : Md} (T : Hs M) (h_near_kinds : Has M false 2 "near_kinds" ["stock", "drawing", "place", "most"] m_near_kinds) (F : TopFn M "makes_room" s_makes_room ["stock", "drawing", "most", "pick", "place", "seen"]) : ∀ n : Nat, Has M false (2 + n) "makes_room" ["stock", "drawing", "most", "pick", "place", "seen"] (m_makes_room n)
  | 0 => has_no F
  | n + 1 => has_of F sc_makes_room t_makes_room rfl rfl (fun X c => b_makes_room T h_near_kinds (h_makes_room T h_near_kinds F n) c)
abbrev s_pick_within : Stmt := topS 27
def B_pick_within : Tb := ⟨["stock", "drawing", "most", "pick", "place"], [0, 1, 2, 3, 4], [0, 1, 2, 3, 4], [0, 1, 2, 3, 4], ["len", "range", "makes_room", "tuple"], [], true, false, none⟩
theorem sc_pick_within : FnScope B_pick_within.N ["stock", "drawing", "most"] (defScope s_pick_within) := ⟨rfl, rfl, rfl, by decide +kernel, rfl, by decide +kernel, by decide +kernel⟩
theorem t_pick_within : fnT B_pick_within (defScope s_pick_within) = true := by decide +kernel
noncomputable def d_pick_within_l1 : En → Sto → SR :=
    (sWp [4] (sIf (tNot1 (tTru (eCall (m_makes_room 10) (aCons (eVar 0) (aCons (eVar 1) (aCons (eVar 2) (aCons (eVar 3) (aCons (eVar 4) (aCons (eNewL aNil) aNil))))))))) (sRet (eK .none)) sNil))
noncomputable def d_pick_within : En → Sto → SR :=
    (sSeq (sSet 3 (eOp2N mulN (eLst (aCons (eK .none) aNil)) (eOpN lenF (aCons (eVar 1) aNil))))
    (sSeq (sFor (cRg1 (aCons (eOpN lenF (aCons (eVar 1) aNil)) aNil)) (gN 4) d_pick_within_l1)
    (sRet (eOpN tupF (aCons (eVar 3) aNil)))))
noncomputable def m_pick_within : List Wv → Sto → Rs Wv := mkF 3 5 d_pick_within
theorem b_pick_within {M : Md} {X : Cx} (T : Hs M) (h_makes_room : Has M false 12 "makes_room" ["stock", "drawing", "most", "pick", "place", "seen"] (m_makes_room 10)) (c : Cxt M X B_pick_within 12) : DB X (defBody s_pick_within) d_pick_within :=
    (db_cons (ds_set c 3 rfl (by decide) (de_binN n_mul (de_lst (da_cons de_non da_nil)) (de_callB (id := "len") c c_len 0 rfl T.z_len (by decide +kernel) (da_cons (de_var c 1 rfl (by decide)) da_nil))))
    (db_cons (ds_for c [4] (di_range1 c 1 rfl T.z_range (da_cons (de_callB (id := "len") c c_len 0 rfl T.z_len (by decide +kernel) (da_cons (de_var c 1 rfl (by decide)) da_nil)) da_nil)) (dg_name c [4] 4 rfl (by decide) (by decide))
    (db_wp [4] (db_one (ds_if (dt_not (dt_val (de_fn c (h_makes_room.up (by decide)) 2 rfl (da_cons (de_var c 0 rfl (by decide)) (da_cons (de_var c 1 rfl (by decide)) (da_cons (de_var c 2 rfl (by decide)) (da_cons (de_var c 3 rfl (by decide)) (da_cons (de_var c 4 rfl (by decide)) (da_cons (de_newl da_nil) da_nil))))))))) (db_one (ds_ret de_non)) db_nil))))
    (db_one (ds_ret (de_callT (T := "tuple") c c_tup 3 rfl T.z_tuple (by decide +kernel) (da_cons (de_var c 3 rfl (by decide)) da_nil))))))
theorem h_pick_within {M : Md} (T : Hs M) (h_makes_room : Has M false 12 "makes_room" ["stock", "drawing", "most", "pick", "place", "seen"] (m_makes_room 10)) (F : TopFn M "pick_within" s_pick_within ["stock", "drawing", "most"]) : Has M false 13 "pick_within" ["stock", "drawing", "most"] m_pick_within := has_of F sc_pick_within t_pick_within rfl rfl (fun X c => b_pick_within T h_makes_room c)
abbrev s_least_greatest : Stmt := topS 31
def B_least_greatest : Tb := ⟨["stock", "drawing", "most"], [0, 1, 2], [0, 1, 2], [0, 1, 2], ["need_stock", "need_drawing", "need_few", "range", "MOST_SHADE", "pick_within"], [], true, false, none⟩
theorem sc_least_greatest : FnScope B_least_greatest.N ["stock", "drawing"] (defScope s_least_greatest) := ⟨rfl, rfl, rfl, by decide +kernel, rfl, by decide +kernel, by decide +kernel⟩
theorem t_least_greatest : fnT B_least_greatest (defScope s_least_greatest) = true := by decide +kernel
noncomputable def d_least_greatest_l1 : En → Sto → SR :=
    (sWp [2] (sIf (tBl (eOp2 ntND (eCall m_pick_within (aCons (eVar 0) (aCons (eVar 1) (aCons (eVar 2) aNil)))) (eK .none))) (sRet (eVar 2)) sNil))
noncomputable def d_least_greatest : En → Sto → SR :=
    (sSeq (sExp (eCall m_need_stock (aCons (eVar 0) aNil)))
    (sSeq (sExp (eCall m_need_drawing (aCons (eVar 1) aNil)))
    (sSeq (sExp (eCall m_need_few (aCons (eVar 0) aNil)))
    (sSeq (sFor (cRg1 (aCons (eOp2 addD (eK w_MOST_SHADE) (eK (.int 1))) aNil)) (gN 2) d_least_greatest_l1)
    (sRet (eK .none))))))
noncomputable def m_least_greatest : List Wv → Sto → Rs Wv := mkF 2 3 d_least_greatest
theorem b_least_greatest {M : Md} {X : Cx} (T : Hs M) (h_need_drawing : Has M false 3 "need_drawing" ["thing"] m_need_drawing) (h_need_few : Has M false 1 "need_few" ["stock"] m_need_few) (h_need_stock : Has M false 5 "need_stock" ["thing"] m_need_stock) (h_pick_within : Has M false 13 "pick_within" ["stock", "drawing", "most"] m_pick_within) (c : Cxt M X B_least_greatest 13) : DB X (defBody s_least_greatest) d_least_greatest :=
    (db_cons (ds_exp (de_fn c (h_need_stock.up (by decide)) 0 rfl (da_cons (de_var c 0 rfl (by decide)) da_nil)))
    (db_cons (ds_exp (de_fn c (h_need_drawing.up (by decide)) 1 rfl (da_cons (de_var c 1 rfl (by decide)) da_nil)))
    (db_cons (ds_exp (de_fn c (h_need_few.up (by decide)) 2 rfl (da_cons (de_var c 0 rfl (by decide)) da_nil)))
    (db_cons (ds_for c [2] (di_range1 c 3 rfl T.z_range (da_cons (de_bin o_add (q_MOST_SHADE T c 4 rfl) de_int) da_nil)) (dg_name c [2] 2 rfl (by decide) (by decide))
    (db_wp [2] (db_one (ds_if (dt_cmp o_ntN (de_fn c (h_pick_within.up (by decide)) 5 rfl (da_cons (de_var c 0 rfl (by decide)) (da_cons (de_var c 1 rfl (by decide)) (da_cons (de_var c 2 rfl (by decide)) da_nil)))) de_non (nomark _)) (db_one (ds_ret (de_var c 2 rfl (by decide)))) db_nil))))
    (db_one (ds_ret de_non))))))
theorem h_least_greatest {M : Md} (T : Hs M) (h_need_drawing : Has M false 3 "need_drawing" ["thing"] m_need_drawing) (h_need_few : Has M false 1 "need_few" ["stock"] m_need_few) (h_need_stock : Has M false 5 "need_stock" ["thing"] m_need_stock) (h_pick_within : Has M false 13 "pick_within" ["stock", "drawing", "most"] m_pick_within) (F : TopFn M "least_greatest" s_least_greatest ["stock", "drawing"]) : Has M false 14 "least_greatest" ["stock", "drawing"] m_least_greatest := has_of F sc_least_greatest t_least_greatest rfl rfl (fun X c => b_least_greatest T h_need_drawing h_need_few h_need_stock h_pick_within c)
abbrev s__law_cost : Stmt := topS 40
def B__law_cost : Tb := ⟨["_law_stock", "_law_drawing_here", "_law_place", "_law_number"], [0, 1, 2, 3], [0, 1, 2, 3], [0, 1, 2, 3], ["abs"], [], true, false, none⟩
theorem sc__law_cost : FnScope B__law_cost.N ["_law_stock", "_law_drawing_here", "_law_place", "_law_number"] (defScope s__law_cost) := ⟨rfl, rfl, rfl, by decide +kernel, rfl, by decide +kernel, by decide +kernel⟩
theorem t__law_cost : fnT B__law_cost (defScope s__law_cost) = true := by decide +kernel
noncomputable def d__law_cost : En → Sto → SR :=
    (sRet (eOpN absF (aCons (eOp2 subD (eOp2 ixD (eOp2 ixD (eVar 0) (eVar 3)) (eK (.int 0))) (eOp2 ixD (eVar 1) (eVar 2))) aNil)))
noncomputable def m__law_cost : List Wv → Sto → Rs Wv := mkF 4 4 d__law_cost
theorem b__law_cost {M : Md} {X : Cx} (T : Hs M)  (c : Cxt M X B__law_cost 0) : DB X (defBody s__law_cost) d__law_cost :=
    (db_one (ds_ret (de_callB (id := "abs") c c_abs 0 rfl T.z_abs (by decide +kernel) (da_cons (de_bin o_sub (de_ix c.roomH (de_ix c.roomH (de_var c 0 rfl (by decide)) (de_var c 3 rfl (by decide)) (fun _ _ => rfl)) de_int (fun _ _ => rfl)) (de_ix c.roomH (de_var c 1 rfl (by decide)) (de_var c 2 rfl (by decide)) (fun _ _ => rfl))) da_nil))))
theorem h__law_cost {M : Md} (T : Hs M)  (F : TopFn M "_law_cost" s__law_cost ["_law_stock", "_law_drawing_here", "_law_place", "_law_number"]) : Has M false 1 "_law_cost" ["_law_stock", "_law_drawing_here", "_law_place", "_law_number"] m__law_cost := has_of F sc__law_cost t__law_cost rfl rfl (fun X c => b__law_cost T  c)
abbrev s__law_few : Stmt := topS 42
def B__law_few : Tb := ⟨["_law_stock", "_law_drawing_here", "_law_most", "_law_places", "_law_near", ".0", "_law_number", "_law_place"], [0, 1, 2, 3, 4], [0, 1, 2, 3, 4], [4], ["range", "len", "sum"], ["_law_stock", "_law_drawing_here", "_law_most", "_law_places"], true, false, none⟩
theorem sc__law_few : FnScope B__law_few.N ["_law_stock", "_law_drawing_here", "_law_most", "_law_places"] (defScope s__law_few) := ⟨rfl, rfl, rfl, by decide +kernel, rfl, by decide +kernel, by decide +kernel⟩
theorem t__law_few : fnT B__law_few (defScope s__law_few) = true := by decide +kernel
noncomputable def d__law_few : En → Sto → SR :=
    (sSeq (sSet 4 (eLc (cRg1 (aCons (eOpN lenF (aCons (eVar 0) aNil)) aNil)) (gN 6) (tBl (eOp2 neD (eLc (cSeq (eVar 3)) (gN 7) (tBl (eOp2 leD (eCall m__law_cost (aCons (eVar 0) (aCons (eVar 1) (aCons (eVar 7) (aCons (eVar 6) aNil))))) (eVar 2))) (eVar 7) [5, 7]) (eLst aNil))) (eVar 6) [5, 6]))
    (sRet (eOp2 ltD (eOpN sumF (aCons (eLc (cSeq (eVar 4)) (gN 6) tYs (eOp2 ixD (eOp2 ixD (eVar 0) (eVar 6)) (eK (.int 3))) [5, 6]) aNil)) (eOpN lenF (aCons (eVar 3) aNil)))))
noncomputable def m__law_few : List Wv → Sto → Rs Wv := mkF 4 8 d__law_few
theorem b__law_few {M : Md} {X : Cx} (T : Hs M) (h__law_cost : Has M false 1 "_law_cost" ["_law_stock", "_law_drawing_here", "_law_place", "_law_number"] m__law_cost) (c : Cxt M X B__law_few 1) : DB X (defBody s__law_few) d__law_few :=
    (db_cons (ds_setlc c 4 rfl (by decide) rfl (lc_ok c [(".0", 5), ("_law_number", 6)] [5, 6, 1, 2, 3, 0] [5, 6] [] ["_law_number", "_law_drawing_here", "_law_most", "_law_places", "_law_stock"] (by decide +kernel) (di_range1 c 0 rfl T.z_range (da_cons (de_callB (id := "len") c c_len 1 rfl T.z_len (by decide +kernel) (da_cons (de_var c 0 rfl (by decide)) da_nil)) da_nil)) (by decide) (fun _ c8 => (dg_name c8 [5, 6] 6 rfl (by decide) (by decide))) (fun _ c8 => (dts_one (dt_cmp (o_ne c8.roomH) (de_lc c8 (lc_ok c8 [(".0", 5), ("_law_place", 7)] [5, 7, 1, 2, 6, 0] [5, 7] ["_law_cost"] ["_law_drawing_here", "_law_most", "_law_number", "_law_stock"] (by decide +kernel) (di_seq (de_var c8 3 rfl (by decide))) (by decide) (fun _ c9 => (dg_name c9 [5, 7] 7 rfl (by decide) (by decide))) (fun _ c9 => (dts_one (dt_cmp (o_le c9.roomH) (de_fn c9 (h__law_cost.up (by decide)) 0 rfl (da_cons (de_var c9 0 rfl (by decide)) (da_cons (de_var c9 1 rfl (by decide)) (da_cons (de_var c9 7 rfl (by decide)) (da_cons (de_var c9 6 rfl (by decide)) da_nil))))) (de_var c9 2 rfl (by decide)) (nomark _)))) (fun _ c9 => (de_var c9 7 rfl (by decide))))) (de_lst da_nil) (nomark _)))) (fun _ c8 => (de_var c8 6 rfl (by decide)))) rfl (by decide +kernel))
    (db_one (ds_ret (de_cmp (o_lt c.roomH) (de_callB (id := "sum") c (c_sum c.calm) 2 rfl T.z_sum (by decide +kernel) (da_cons (de_lc c (lc_ok c [(".0", 5), ("_law_number", 6)] [5, 6, 0] [5, 6] [] ["_law_stock"] (by decide +kernel) (di_seq (de_var c 4 rfl (by decide))) (by decide) (fun _ c10 => (dg_name c10 [5, 6] 6 rfl (by decide) (by decide))) (fun _ c10 => dts_nil) (fun _ c10 => (de_ix c10.roomH (de_ix c10.roomH (de_var c10 0 rfl (by decide)) (de_var c10 6 rfl (by decide)) (fun _ _ => rfl)) de_int (fun _ _ => rfl))))) da_nil)) (de_callB (id := "len") c c_len 1 rfl T.z_len (by decide +kernel) (da_cons (de_var c 3 rfl (by decide)) da_nil)) (nomark _)))))
theorem h__law_few {M : Md} (T : Hs M) (h__law_cost : Has M false 1 "_law_cost" ["_law_stock", "_law_drawing_here", "_law_place", "_law_number"] m__law_cost) (F : TopFn M "_law_few" s__law_few ["_law_stock", "_law_drawing_here", "_law_most", "_law_places"]) : Has M false 2 "_law_few" ["_law_stock", "_law_drawing_here", "_law_most", "_law_places"] m__law_few := has_of F sc__law_few t__law_few rfl rfl (fun X c => b__law_few T h__law_cost c)
abbrev s__law_fewest_places : Stmt := topS 43
def B__law_fewest_places : Tb := ⟨["_law_stock", "_law_drawing_here", "_law_most", "_law_found", "_law_place", "_law_rows", ".0", "_law_one"], [0, 1, 2, 3, 4, 5], [0, 1, 2, 3, 4, 5], [3, 5], ["range", "len", "sorted"], ["_law_stock", "_law_drawing_here", "_law_most", "_law_place"], true, false, none⟩
theorem sc__law_fewest_places : FnScope B__law_fewest_places.N ["_law_stock", "_law_drawing_here", "_law_most"] (defScope s__law_fewest_places) := ⟨rfl, rfl, rfl, by decide +kernel, rfl, by decide +kernel, by decide +kernel⟩
theorem t__law_fewest_places : fnT B__law_fewest_places (defScope s__law_fewest_places) = true := by decide +kernel
noncomputable def d__law_fewest_places_l1 : En → Sto → SR :=
    (sWp [4] (sSet 3 (eOp2 addD (eVar 3) (eLc (cSeq (eVar 3)) (gN 7) tYs (eOp2 addD (eVar 7) (eTup (aCons (eVar 4) aNil))) [6, 7]))))
noncomputable def d__law_fewest_places : En → Sto → SR :=
    (sSeq (sSet 3 (eLst (aCons (eTup aNil) aNil)))
    (sSeq (sFor (cRg1 (aCons (eOpN lenF (aCons (eVar 1) aNil)) aNil)) (gN 4) d__law_fewest_places_l1)
    (sSeq (sSet 5 (eOpN (srtF false) (aCons (eLc (cSeq (eVar 3)) (gN 7) (tTru (eCall m__law_few (aCons (eVar 0) (aCons (eVar 1) (aCons (eVar 2) (aCons (eVar 7) aNil)))))) (eTup (aCons (eOpN lenF (aCons (eVar 7) aNil)) (aCons (eVar 7) aNil))) [6, 7]) aNil)))
    (sRet (eIf (tBl (eOp2 neD (eVar 5) (eLst aNil))) (eOp2 ixD (eOp2 ixD (eVar 5) (eK (.int 0))) (eK (.int 1))) (eK .none))))))
noncomputable def m__law_fewest_places : List Wv → Sto → Rs Wv := mkF 3 8 d__law_fewest_places
theorem b__law_fewest_places {M : Md} {X : Cx} (T : Hs M) (h__law_few : Has M false 2 "_law_few" ["_law_stock", "_law_drawing_here", "_law_most", "_law_places"] m__law_few) (c : Cxt M X B__law_fewest_places 2) : DB X (defBody s__law_fewest_places) d__law_fewest_places :=
    (db_cons (ds_set c 3 rfl (by decide) (de_lst (da_cons (de_tup da_nil) da_nil)))
    (db_cons (ds_for c [4] (di_range1 c 0 rfl T.z_range (da_cons (de_callB (id := "len") c c_len 1 rfl T.z_len (by decide +kernel) (da_cons (de_var c 1 rfl (by decide)) da_nil)) da_nil)) (dg_name c [4] 4 rfl (by decide) (by decide))
    (db_wp [4] (db_one (ds_set c 3 rfl (by decide) (de_bin o_add (de_var c 3 rfl (by decide)) (de_lc c (lc_ok c [(".0", 6), ("_law_one", 7)] [6, 7, 4] [6, 7] [] ["_law_place"] (by decide +kernel) (di_seq (de_var c 3 rfl (by decide))) (by decide) (fun _ c11 => (dg_name c11 [6, 7] 7 rfl (by decide) (by decide))) (fun _ c11 => dts_nil) (fun _ c11 => (de_bin o_add (de_var c11 7 rfl (by decide)) (de_tup (da_cons (de_var c11 4 rfl (by decide)) da_nil)))))))))))
    (db_cons (ds_set c 5 rfl (by decide) (de_callB (id := "sorted") c (c_sorted c.roomH) 2 rfl T.z_sorted (by decide +kernel) (da_cons (de_lc c (lc_ok c [(".0", 6), ("_law_one", 7)] [6, 7, 1, 2, 0] [6, 7] ["_law_few", "len"] ["_law_drawing_here", "_law_most", "_law_stock"] (by decide +kernel) (di_seq (de_var c 3 rfl (by decide))) (by decide) (fun _ c12 => (dg_name c12 [6, 7] 7 rfl (by decide) (by decide))) (fun _ c12 => (dts_one (dt_val (de_fn c12 (h__law_few.up (by decide)) 0 rfl (da_cons (de_var c12 0 rfl (by decide)) (da_cons (de_var c12 1 rfl (by decide)) (da_cons (de_var c12 2 rfl (by decide)) (da_cons (de_var c12 7 rfl (by decide)) da_nil)))))))) (fun _ c12 => (de_tup (da_cons (de_callB (id := "len") c12 c_len 1 rfl T.z_len (by decide +kernel) (da_cons (de_var c12 7 rfl (by decide)) da_nil)) (da_cons (de_var c12 7 rfl (by decide)) da_nil)))))) da_nil)))
    (db_one (ds_ret (de_if (dt_cmp (o_ne c.roomH) (de_var c 5 rfl (by decide)) (de_lst da_nil) (nomark _)) (de_ix c.roomH (de_ix c.roomH (de_var c 5 rfl (by decide)) de_int (fun _ _ => rfl)) de_int (fun _ _ => rfl)) de_non))))))
theorem h__law_fewest_places {M : Md} (T : Hs M) (h__law_few : Has M false 2 "_law_few" ["_law_stock", "_law_drawing_here", "_law_most", "_law_places"] m__law_few) (F : TopFn M "_law_fewest_places" s__law_fewest_places ["_law_stock", "_law_drawing_here", "_law_most"]) : Has M false 3 "_law_fewest_places" ["_law_stock", "_law_drawing_here", "_law_most"] m__law_fewest_places := has_of F sc__law_fewest_places t__law_fewest_places rfl rfl (fun X c => b__law_fewest_places T h__law_few c)
abbrev s_need_number : Stmt := topS 17
def B_need_number : Tb := ⟨["thing", "least", "most"], [0, 1, 2], [0, 1, 2], [0, 1, 2], ["is_whole", "NoNumber"], [], true, false, none⟩
theorem sc_need_number : FnScope B_need_number.N ["thing", "least", "most"] (defScope s_need_number) := ⟨rfl, rfl, rfl, by decide +kernel, rfl, by decide +kernel, by decide +kernel⟩
theorem t_need_number : fnT B_need_number (defScope s_need_number) = true := by decide +kernel
noncomputable def d_need_number : En → Sto → SR :=
    (sIf (tNot1 (tTru (eCall m_is_whole (aCons (eVar 0) (aCons (eVar 1) (aCons (eVar 2) aNil)))))) sNo sNil)
noncomputable def m_need_number : List Wv → Sto → Rs Wv := mkF 3 3 d_need_number
theorem b_need_number {M : Md} {X : Cx} (T : Hs M) (h_is_whole : Has M false 1 "is_whole" ["thing", "least", "most"] m_is_whole) (c : Cxt M X B_need_number 1) : DB X (defBody s_need_number) d_need_number :=
    (db_one (ds_if (dt_not (dt_val (de_fn c (h_is_whole.up (by decide)) 0 rfl (da_cons (de_var c 0 rfl (by decide)) (da_cons (de_var c 1 rfl (by decide)) (da_cons (de_var c 2 rfl (by decide)) da_nil)))))) (db_one ds_no) db_nil))
theorem h_need_number {M : Md} (T : Hs M) (h_is_whole : Has M false 1 "is_whole" ["thing", "least", "most"] m_is_whole) (F : TopFn M "need_number" s_need_number ["thing", "least", "most"]) : Has M false 2 "need_number" ["thing", "least", "most"] m_need_number := has_of F sc_need_number t_need_number rfl rfl (fun X c => b_need_number T h_is_whole c)
abbrev s_are_few : Stmt := topS 28
def B_are_few : Tb := ⟨["stock", "drawing", "most", "places", "near", "place", "number"], [0, 1, 2, 3, 4, 5, 6], [0, 1, 2, 3, 4, 5, 6], [0, 1, 2, 3, 4, 5, 6], ["near_kinds", "sum", "list", "len"], [], true, false, none⟩
theorem sc_are_few : FnScope B_are_few.N ["stock", "drawing", "most", "places"] (defScope s_are_few) := ⟨rfl, rfl, rfl, by decide +kernel, rfl, by decide +kernel, by decide +kernel⟩
theorem t_are_few : fnT B_are_few (defScope s_are_few) = true := by decide +kernel
noncomputable def d_are_few_l1 : En → Sto → SR :=
    (sWp [6] (sIx (eVar 4) (eVar 6) (eOp2 ixD (eOp2 ixD (eVar 0) (eVar 6)) (eK (.int 3)))))
noncomputable def d_are_few_l2 : En → Sto → SR :=
    (sWp [5, 6] (sFor (cSeq (eCall m_near_kinds (aCons (eVar 0) (aCons (eVar 1) (aCons (eVar 5) (aCons (eVar 2) aNil)))))) (gN 6) d_are_few_l1))
noncomputable def d_are_few : En → Sto → SR :=
    (sSeq (sSet 4 eNewD)
    (sSeq (sFor (cSeq (eVar 3)) (gN 5) d_are_few_l2)
    (sRet (eOp2 ltD (eOpN sumF (aCons (eVls (eFrz (eVar 4))) aNil)) (eOpN lenF (aCons (eVar 3) aNil))))))
noncomputable def m_are_few : List Wv → Sto → Rs Wv := mkF 4 7 d_are_few
theorem b_are_few {M : Md} {X : Cx} (T : Hs M) (h_near_kinds : Has M false 2 "near_kinds" ["stock", "drawing", "place", "most"] m_near_kinds) (c : Cxt M X B_are_few 2) : DB X (defBody s_are_few) d_are_few :=
    (db_cons (ds_set c 4 rfl (by decide) de_newd)
    (db_cons (ds_for c [5] (di_seq (de_var c 3 rfl (by decide))) (dg_name c [5] 5 rfl (by decide) (by decide))
    (db_wp [5, 6] (db_one (ds_for c [6] (di_seq (de_fn c (h_near_kinds.up (by decide)) 0 rfl (da_cons (de_var c 0 rfl (by decide)) (da_cons (de_var c 1 rfl (by decide)) (da_cons (de_var c 5 rfl (by decide)) (da_cons (de_var c 2 rfl (by decide)) da_nil)))))) (dg_name c [6] 6 rfl (by decide) (by decide))
    (db_wp [6] (db_one (ds_setix c (de_var c 4 rfl (by decide)) (de_var c 6 rfl (by decide)) (de_ix c.roomH (de_ix c.roomH (de_var c 0 rfl (by decide)) (de_var c 6 rfl (by decide)) (fun _ _ => rfl)) de_int (fun _ _ => rfl)))))))))
    (db_one (ds_ret (de_cmp (o_lt c.roomH) (de_callB (id := "sum") c (c_sum c.calm) 1 rfl T.z_sum (by decide +kernel) (da_cons (de_vls c 2 rfl T.z_list (de_frz (de_var c 4 rfl (by decide)))) da_nil)) (de_callB (id := "len") c c_len 3 rfl T.z_len (by decide +kernel) (da_cons (de_var c 3 rfl (by decide)) da_nil)) (nomark _))))))
theorem h_are_few {M : Md} (T : Hs M) (h_near_kinds : Has M false 2 "near_kinds" ["stock", "drawing", "place", "most"] m_near_kinds) (F : TopFn M "are_few" s_are_few ["stock", "drawing", "most", "places"]) : Has M false 3 "are_few" ["stock", "drawing", "most", "places"] m_are_few := has_of F sc_are_few t_are_few rfl rfl (fun X c => b_are_few T h_near_kinds c)
abbrev s_few_places : Stmt := topS 29
def B_few_places : Tb := ⟨["stock", "drawing", "most", "found", "place", "some", ".0", "one"], [0, 1, 2, 3, 4, 5], [0, 1, 2, 3, 4, 5], [3, 5], ["range", "len", "min"], ["stock", "drawing", "most", "place"], true, false, none⟩
theorem sc_few_places : FnScope B_few_places.N ["stock", "drawing", "most"] (defScope s_few_places) := ⟨rfl, rfl, rfl, by decide +kernel, rfl, by decide +kernel, by decide +kernel⟩
theorem t_few_places : fnT B_few_places (defScope s_few_places) = true := by decide +kernel
noncomputable def d_few_places_l1 : En → Sto → SR :=
    (sWp [4] (sSet 3 (eOp2 addD (eVar 3) (eLc (cSeq (eVar 3)) (gN 7) tYs (eOp2 addD (eVar 7) (eTup (aCons (eVar 4) aNil))) [6, 7]))))
noncomputable def d_few_places : En → Sto → SR :=
    (sSeq (sSet 3 (eLst (aCons (eTup aNil) aNil)))
    (sSeq (sFor (cRg1 (aCons (eOpN lenF (aCons (eVar 1) aNil)) aNil)) (gN 4) d_few_places_l1)
    (sSeq (sSet 5 (eLc (cSeq (eVar 3)) (gN 7) (tTru (eCall m_are_few (aCons (eVar 0) (aCons (eVar 1) (aCons (eVar 2) (aCons (eVar 7) aNil)))))) (eVar 7) [6, 7]))
    (sRet (eOp2 ixD (eOpN (bestF PySem.W.minD) (aCons (eLc (cSeq (eVar 5)) (gN 7) tYs (eTup (aCons (eOpN lenF (aCons (eVar 7) aNil)) (aCons (eVar 7) aNil))) [6, 7]) aNil)) (eK (.int 1)))))))
noncomputable def m_few_places : List Wv → Sto → Rs Wv := mkF 3 8 d_few_places
theorem b_few_places {M : Md} {X : Cx} (T : Hs M) (h_are_few : Has M false 3 "are_few" ["stock", "drawing", "most", "places"] m_are_few) (c : Cxt M X B_few_places 3) : DB X (defBody s_few_places) d_few_places :=
    (db_cons (ds_set c 3 rfl (by decide) (de_lst (da_cons (de_tup da_nil) da_nil)))
    (db_cons (ds_for c [4] (di_range1 c 0 rfl T.z_range (da_cons (de_callB (id := "len") c c_len 1 rfl T.z_len (by decide +kernel) (da_cons (de_var c 1 rfl (by decide)) da_nil)) da_nil)) (dg_name c [4] 4 rfl (by decide) (by decide))
    (db_wp [4] (db_one (ds_set c 3 rfl (by decide) (de_bin o_add (de_var c 3 rfl (by decide)) (de_lc c (lc_ok c [(".0", 6), ("one", 7)] [6, 7, 4] [6, 7] [] ["place"] (by decide +kernel) (di_seq (de_var c 3 rfl (by decide))) (by decide) (fun _ c13 => (dg_name c13 [6, 7] 7 rfl (by decide) (by decide))) (fun _ c13 => dts_nil) (fun _ c13 => (de_bin o_add (de_var c13 7 rfl (by decide)) (de_tup (da_cons (de_var c13 4 rfl (by decide)) da_nil)))))))))))
    (db_cons (ds_setlc c 5 rfl (by decide) rfl (lc_ok c [(".0", 6), ("one", 7)] [6, 7, 1, 2, 0] [6, 7] ["are_few"] ["drawing", "most", "stock"] (by decide +kernel) (di_seq (de_var c 3 rfl (by decide))) (by decide) (fun _ c14 => (dg_name c14 [6, 7] 7 rfl (by decide) (by decide))) (fun _ c14 => (dts_one (dt_val (de_fn c14 (h_are_few.up (by decide)) 0 rfl (da_cons (de_var c14 0 rfl (by decide)) (da_cons (de_var c14 1 rfl (by decide)) (da_cons (de_var c14 2 rfl (by decide)) (da_cons (de_var c14 7 rfl (by decide)) da_nil)))))))) (fun _ c14 => (de_var c14 7 rfl (by decide)))) rfl (by decide +kernel))
    (db_one (ds_ret (de_ix c.roomH (de_callB (id := "min") c (c_min1 c.calm c.roomH) 2 rfl T.z_min (by decide +kernel) (da_cons (de_lc c (lc_ok c [(".0", 6), ("one", 7)] [6, 7] [6, 7] ["len"] [] (by decide +kernel) (di_seq (de_var c 5 rfl (by decide))) (by decide) (fun _ c15 => (dg_name c15 [6, 7] 7 rfl (by decide) (by decide))) (fun _ c15 => dts_nil) (fun _ c15 => (de_tup (da_cons (de_callB (id := "len") c15 c_len 0 rfl T.z_len (by decide +kernel) (da_cons (de_var c15 7 rfl (by decide)) da_nil)) (da_cons (de_var c15 7 rfl (by decide)) da_nil)))))) da_nil)) de_int (fun _ _ => rfl)))))))
theorem h_few_places {M : Md} (T : Hs M) (h_are_few : Has M false 3 "are_few" ["stock", "drawing", "most", "places"] m_are_few) (F : TopFn M "few_places" s_few_places ["stock", "drawing", "most"]) : Has M false 4 "few_places" ["stock", "drawing", "most"] m_few_places := has_of F sc_few_places t_few_places rfl rfl (fun X c => b_few_places T h_are_few c)
abbrev s_within : Stmt := topS 30
def B_within : Tb := ⟨["stock", "drawing", "most", "pick"], [0, 1, 2, 3], [0, 1, 2, 3], [0, 1, 2, 3], ["need_stock", "need_drawing", "need_number", "MOST_SHADE", "need_few", "pick_within", "few_places"], [], true, false, none⟩
theorem sc_within : FnScope B_within.N ["stock", "drawing", "most"] (defScope s_within) := ⟨rfl, rfl, rfl, by decide +kernel, rfl, by decide +kernel, by decide +kernel⟩
theorem t_within : fnT B_within (defScope s_within) = true := by decide +kernel
noncomputable def d_within : En → Sto → SR :=
    (sSeq (sExp (eCall m_need_stock (aCons (eVar 0) aNil)))
    (sSeq (sExp (eCall m_need_drawing (aCons (eVar 1) aNil)))
    (sSeq (sExp (eCall m_need_number (aCons (eVar 2) (aCons (eK (.int 0)) (aCons (eK w_MOST_SHADE) aNil)))))
    (sSeq (sExp (eCall m_need_few (aCons (eVar 0) aNil)))
    (sSeq (sSet 3 (eCall m_pick_within (aCons (eVar 0) (aCons (eVar 1) (aCons (eVar 2) aNil)))))
    (sSeq (sIf (tBl (eOp2 ntND (eVar 3) (eK .none))) (sRet (eTup (aCons (eK (.str "pick")) (aCons (eVar 3) aNil)))) sNil)
    (sRet (eTup (aCons (eK (.str "few")) (aCons (eCall m_few_places (aCons (eVar 0) (aCons (eVar 1) (aCons (eVar 2) aNil)))) aNil))))))))))
noncomputable def m_within : List Wv → Sto → Rs Wv := mkF 3 4 d_within
theorem b_within {M : Md} {X : Cx} (T : Hs M) (h_few_places : Has M false 4 "few_places" ["stock", "drawing", "most"] m_few_places) (h_need_drawing : Has M false 3 "need_drawing" ["thing"] m_need_drawing) (h_need_few : Has M false 1 "need_few" ["stock"] m_need_few) (h_need_number : Has M false 2 "need_number" ["thing", "least", "most"] m_need_number) (h_need_stock : Has M false 5 "need_stock" ["thing"] m_need_stock) (h_pick_within : Has M false 13 "pick_within" ["stock", "drawing", "most"] m_pick_within) (c : Cxt M X B_within 13) : DB X (defBody s_within) d_within :=
    (db_cons (ds_exp (de_fn c (h_need_stock.up (by decide)) 0 rfl (da_cons (de_var c 0 rfl (by decide)) da_nil)))
    (db_cons (ds_exp (de_fn c (h_need_drawing.up (by decide)) 1 rfl (da_cons (de_var c 1 rfl (by decide)) da_nil)))
    (db_cons (ds_exp (de_fn c (h_need_number.up (by decide)) 2 rfl (da_cons (de_var c 2 rfl (by decide)) (da_cons de_int (da_cons (q_MOST_SHADE T c 3 rfl) da_nil)))))
    (db_cons (ds_exp (de_fn c (h_need_few.up (by decide)) 4 rfl (da_cons (de_var c 0 rfl (by decide)) da_nil)))
    (db_cons (ds_set c 3 rfl (by decide) (de_fn c (h_pick_within.up (by decide)) 5 rfl (da_cons (de_var c 0 rfl (by decide)) (da_cons (de_var c 1 rfl (by decide)) (da_cons (de_var c 2 rfl (by decide)) da_nil)))))
    (db_cons (ds_if (dt_cmp o_ntN (de_var c 3 rfl (by decide)) de_non (nomark _)) (db_one (ds_ret (de_tup (da_cons de_str (da_cons (de_var c 3 rfl (by decide)) da_nil))))) db_nil)
    (db_one (ds_ret (de_tup (da_cons de_str (da_cons (de_fn c (h_few_places.up (by decide)) 6 rfl (da_cons (de_var c 0 rfl (by decide)) (da_cons (de_var c 1 rfl (by decide)) (da_cons (de_var c 2 rfl (by decide)) da_nil)))) da_nil)))))))))))
theorem h_within {M : Md} (T : Hs M) (h_few_places : Has M false 4 "few_places" ["stock", "drawing", "most"] m_few_places) (h_need_drawing : Has M false 3 "need_drawing" ["thing"] m_need_drawing) (h_need_few : Has M false 1 "need_few" ["stock"] m_need_few) (h_need_number : Has M false 2 "need_number" ["thing", "least", "most"] m_need_number) (h_need_stock : Has M false 5 "need_stock" ["thing"] m_need_stock) (h_pick_within : Has M false 13 "pick_within" ["stock", "drawing", "most"] m_pick_within) (F : TopFn M "within" s_within ["stock", "drawing", "most"]) : Has M false 14 "within" ["stock", "drawing", "most"] m_within := has_of F sc_within t_within rfl rfl (fun X c => b_within T h_few_places h_need_drawing h_need_few h_need_number h_need_stock h_pick_within c)
abbrev s__law_whole : Stmt := topS 37
def B__law_whole : Tb := ⟨["_law_thing", "_law_least", "_law_most"], [0, 1, 2], [0, 1, 2], [0, 1, 2], ["isinstance", "int", "bool"], [], true, false, none⟩
theorem sc__law_whole : FnScope B__law_whole.N ["_law_thing", "_law_least", "_law_most"] (defScope s__law_whole) := ⟨rfl, rfl, rfl, by decide +kernel, rfl, by decide +kernel, by decide +kernel⟩
theorem t__law_whole : fnT B__law_whole (defScope s__law_whole) = true := by decide +kernel
noncomputable def d__law_whole : En → Sto → SR :=
    (sRet (eAnd2 (eOp1 (isaD "int") (eVar 0)) (eAnd2 (eNot1 (eOp1 (isaD "bool") (eVar 0))) (eChain leD leD (eVar 1) (eVar 0) (eVar 2)))))
noncomputable def m__law_whole : List Wv → Sto → Rs Wv := mkF 3 3 d__law_whole
theorem b__law_whole {M : Md} {X : Cx} (T : Hs M)  (c : Cxt M X B__law_whole 0) : DB X (defBody s__law_whole) d__law_whole :=
    (db_one (ds_ret (de_and (de_isa c 0 1 rfl T.z_isinstance rfl T.z_int (by decide +kernel) (de_var c 0 rfl (by decide))) (de_and (de_not (de_isa c 0 2 rfl T.z_isinstance rfl T.z_bool (by decide +kernel) (de_var c 0 rfl (by decide)))) (de_one (de_chain (o_le c.roomH) (o_le c.roomH) (de_var c 1 rfl (by decide)) (de_var c 0 rfl (by decide)) (de_var c 2 rfl (by decide))))))))
theorem h__law_whole {M : Md} (T : Hs M)  (F : TopFn M "_law_whole" s__law_whole ["_law_thing", "_law_least", "_law_most"]) : Has M false 1 "_law_whole" ["_law_thing", "_law_least", "_law_most"] m__law_whole := has_of F sc__law_whole t__law_whole rfl rfl (fun X c => b__law_whole T  c)
abbrev s__law_is_pick : Stmt := topS 41
def B__law_is_pick : Tb := ⟨["_law_stock", "_law_drawing_here", "_law_thing", ".0", "_law_number", "_law_kind", "_law_one"], [0, 1, 2], [0, 1, 2], [1], ["isinstance", "tuple", "len", "all", "enumerate"], ["_law_stock", "_law_thing"], true, false, none⟩
theorem sc__law_is_pick : FnScope B__law_is_pick.N ["_law_stock", "_law_drawing_here", "_law_thing"] (defScope s__law_is_pick) := ⟨rfl, rfl, rfl, by decide +kernel, rfl, by decide +kernel, by decide +kernel⟩
theorem t__law_is_pick : fnT B__law_is_pick (defScope s__law_is_pick) = true := by decide +kernel
noncomputable def d__law_is_pick : En → Sto → SR :=
    (sSeq (sIf (tOr2 (tNot1 (tTru (eOp1 (isaD "tuple") (eVar 2)))) (tBl (eOp2 neD (eOpN lenF (aCons (eVar 2) aNil)) (eOpN lenF (aCons (eVar 1) aNil))))) (sRet (eK (.bool false))) sNil)
    (sSeq (sIf (tNot1 (tTru (eOpN allF (aCons (eLc (cSeq (eVar 2)) (gN 6) tYs (eCall m__law_whole (aCons (eVar 6) (aCons (eK (.int 0)) (aCons (eOp2 subD (eOpN lenF (aCons (eVar 0) aNil)) (eK (.int 1))) aNil)))) [3, 6]) aNil)))) (sRet (eK (.bool false))) sNil)
    (sRet (eOpN allF (aCons (eLc (cEnum (aCons (eVar 0) aNil)) (gTp (gCn (gN 4) (gCn (gN 5) gNl))) tYs (eOp2 leD (eMdT cntT (eVar 2) (aCons (eVar 4) aNil)) (eOp2 ixD (eVar 5) (eK (.int 3)))) [3, 4, 5]) aNil)))))
noncomputable def m__law_is_pick : List Wv → Sto → Rs Wv := mkF 3 7 d__law_is_pick
theorem b__law_is_pick {M : Md} {X : Cx} (T : Hs M) (h__law_whole : Has M false 1 "_law_whole" ["_law_thing", "_law_least", "_law_most"] m__law_whole) (c : Cxt M X B__law_is_pick 1) : DB X (defBody s__law_is_pick) d__law_is_pick :=
    (db_cons (ds_if (DW.dt (dw_or (dt_not (dt_val (de_isa c 0 1 rfl T.z_isinstance rfl T.z_tuple (by decide +kernel) (de_var c 2 rfl (by decide))))) (dw_or1 (dt_cmp (o_ne c.roomH) (de_callB (id := "len") c c_len 2 rfl T.z_len (by decide +kernel) (da_cons (de_var c 2 rfl (by decide)) da_nil)) (de_callB (id := "len") c c_len 2 rfl T.z_len (by decide +kernel) (da_cons (de_var c 1 rfl (by decide)) da_nil)) (nomark _))))) (db_one (ds_ret de_bl)) db_nil)
    (db_cons (ds_if (dt_not (dt_val (de_callB (id := "all") c (c_all c.calm) 3 rfl T.z_all (by decide +kernel) (da_cons (de_lc c (lc_ok c [(".0", 3), ("_law_one", 6)] [3, 6, 0] [3, 6] ["_law_whole", "len"] ["_law_stock"] (by decide +kernel) (di_seq (de_var c 2 rfl (by decide))) (by decide) (fun _ c16 => (dg_name c16 [3, 6] 6 rfl (by decide) (by decide))) (fun _ c16 => dts_nil) (fun _ c16 => (de_fn c16 (h__law_whole.up (by decide)) 0 rfl (da_cons (de_var c16 6 rfl (by decide)) (da_cons de_int (da_cons (de_bin o_sub (de_callB (id := "len") c16 c_len 1 rfl T.z_len (by decide +kernel) (da_cons (de_var c16 0 rfl (by decide)) da_nil)) de_int) da_nil))))))) da_nil)))) (db_one (ds_ret de_bl)) db_nil)
    (db_one (ds_ret (de_callB (id := "all") c (c_all c.calm) 3 rfl T.z_all (by decide +kernel) (da_cons (de_lc c (lc_ok c [(".0", 3), ("_law_number", 4), ("_law_kind", 5)] [3, 4, 5, 2] [3, 4, 5] [] ["_law_thing"] (by decide +kernel) (di_enum c 4 rfl T.z_enumerate (da_cons (de_var c 0 rfl (by decide)) da_nil)) (by decide) (fun _ c17 => (dg_tup c17 (dgs_cons (dg_name c17 [3, 4, 5] 4 rfl (by decide) (by decide)) (dgs_cons (dg_name c17 [3, 4, 5] 5 rfl (by decide) (by decide)) (dgs_nil [3, 4, 5]))) (asks_cons (asks_cons asks_nil)))) (fun _ c17 => dts_nil) (fun _ c17 => (de_cmp (o_le c17.roomH) (de_countT c17 (de_var c17 2 rfl (by decide)) (da_cons (de_var c17 4 rfl (by decide)) da_nil)) (de_ix c17.roomH (de_var c17 5 rfl (by decide)) de_int (fun _ _ => rfl)) (nomark _))))) da_nil))))))
theorem h__law_is_pick {M : Md} (T : Hs M) (h__law_whole : Has M false 1 "_law_whole" ["_law_thing", "_law_least", "_law_most"] m__law_whole) (F : TopFn M "_law_is_pick" s__law_is_pick ["_law_stock", "_law_drawing_here", "_law_thing"]) : Has M false 2 "_law_is_pick" ["_law_stock", "_law_drawing_here", "_law_thing"] m__law_is_pick := has_of F sc__law_is_pick t__law_is_pick rfl rfl (fun X c => b__law_is_pick T h__law_whole c)
abbrev s__law_right : Stmt := topS 44
def B__law_right : Tb := ⟨["_law_stock", "_law_drawing_here", "_law_most", "_law_places", "_law_turn", "_law_found", ".0", "_law_place", "_law_number"], [0, 1, 2, 3, 4, 5], [0, 1, 2, 3, 4, 5], [2, 3, 4, 5], ["_law_fewest_places", "range", "within", "repr", "isinstance", "tuple", "len", "_law_is_pick", "max", "enumerate"], ["_law_stock", "_law_drawing_here"], true, true, none⟩
theorem sc__law_right : FnScope B__law_right.N ["_law_stock", "_law_drawing_here", "_law_most"] (defScope s__law_right) := ⟨rfl, rfl, rfl, by decide +kernel, rfl, by decide +kernel, by decide +kernel⟩
theorem t__law_right : fnT B__law_right (defScope s__law_right) = true := by decide +kernel
noncomputable def d__law_right_l1 : En → Sto → SR :=
    (sWp [4, 5] (sSeq (sSet 5 (eCall m_within (aCons (eVar 0) (aCons (eVar 1) (aCons (eVar 2) aNil)))))
    (sIf (tBl (eOp2 ntND (eVar 3) (eK .none))) (sIf (tBl (eOp2 neD (eOpN reprF (aCons (eVar 5) aNil)) (eOpN reprF (aCons (eTup (aCons (eK (.str "few")) (aCons (eVar 3) aNil))) aNil)))) (sRet (eK (.bool false))) sNil) (sIf (tOr2 (tNot1 (tTru (eOp1 (isaD "tuple") (eVar 5)))) (tOr2 (tBl (eOp2 neD (eOpN lenF (aCons (eVar 5) aNil)) (eK (.int 2)))) (tBl (eOp2 neD (eOp2 ixD (eVar 5) (eK (.int 0))) (eK (.str "pick")))))) (sRet (eK (.bool false))) (sIf (tNot1 (tTru (eCall m__law_is_pick (aCons (eVar 0) (aCons (eVar 1) (aCons (eOp2 ixD (eVar 5) (eK (.int 1))) aNil)))))) (sRet (eK (.bool false))) (sIf (tBl (eOp2 gtD (eOpN (bestF PySem.W.maxD) (aCons (eLc (cEnum (aCons (eOp2 ixD (eVar 5) (eK (.int 1))) aNil)) (gTp (gCn (gN 7) (gCn (gN 8) gNl))) tYs (eCall m__law_cost (aCons (eVar 0) (aCons (eVar 1) (aCons (eVar 7) (aCons (eVar 8) aNil))))) [6, 7, 8]) aNil)) (eVar 2))) (sRet (eK (.bool false))) sNil))))))
noncomputable def d__law_right : En → Sto → SR :=
    (sSeq (sSet 3 (eCall m__law_fewest_places (aCons (eVar 0) (aCons (eVar 1) (aCons (eVar 2) aNil)))))
    (sSeq (sFor (cRg1 (aCons (eK (.int 2)) aNil)) (gN 4) d__law_right_l1)
    (sRet (eK (.bool true)))))
noncomputable def m__law_right : List Wv → Sto → Rs Wv := mkF 3 9 d__law_right
theorem b__law_right {M : Md} {X : Cx} (T : Hs M) (h__law_cost : Has M false 1 "_law_cost" ["_law_stock", "_law_drawing_here", "_law_place", "_law_number"] m__law_cost) (h__law_fewest_places : Has M false 3 "_law_fewest_places" ["_law_stock", "_law_drawing_here", "_law_most"] m__law_fewest_places) (h__law_is_pick : Has M false 2 "_law_is_pick" ["_law_stock", "_law_drawing_here", "_law_thing"] m__law_is_pick) (h_within : Has M false 14 "within" ["stock", "drawing", "most"] m_within) (c : Cxt M X B__law_right 14) : DB X (defBody s__law_right) d__law_right :=
    (db_cons (ds_set c 3 rfl (by decide) (de_fn c (h__law_fewest_places.up (by decide)) 0 rfl (da_cons (de_var c 0 rfl (by decide)) (da_cons (de_var c 1 rfl (by decide)) (da_cons (de_var c 2 rfl (by decide)) da_nil)))))
    (db_cons (ds_for c [4] (di_range1 c 1 rfl T.z_range (da_cons de_int da_nil)) (dg_name c [4] 4 rfl (by decide) (by decide))
    (db_wp [4, 5] (db_cons (ds_set c 5 rfl (by decide) (de_fn c (h_within.up (by decide)) 2 rfl (da_cons (de_var c 0 rfl (by decide)) (da_cons (de_var c 1 rfl (by decide)) (da_cons (de_var c 2 rfl (by decide)) da_nil)))))
    (db_one (ds_if (dt_cmp o_ntN (de_var c 3 rfl (by decide)) de_non (nomark _)) (db_one (ds_if (dt_cmp (o_ne c.roomH) (de_callB (id := "repr") c (c_repr c.roomH (c.gu rfl) (c.sm T.sm)) 3 rfl T.z_repr (by decide +kernel) (da_cons (de_var c 5 rfl (by decide)) da_nil)) (de_callB (id := "repr") c (c_repr c.roomH (c.gu rfl) (c.sm T.sm)) 3 rfl T.z_repr (by decide +kernel) (da_cons (de_tup (da_cons de_str (da_cons (de_var c 3 rfl (by decide)) da_nil))) da_nil)) (nomark _)) (db_one (ds_ret de_bl)) db_nil)) (db_one (ds_if (DW.dt (dw_or (dt_not (dt_val (de_isa c 4 5 rfl T.z_isinstance rfl T.z_tuple (by decide +kernel) (de_var c 5 rfl (by decide))))) (dw_or (dt_cmp (o_ne c.roomH) (de_callB (id := "len") c c_len 6 rfl T.z_len (by decide +kernel) (da_cons (de_var c 5 rfl (by decide)) da_nil)) de_int (nomark _)) (dw_or1 (dt_cmp (o_ne c.roomH) (de_ix c.roomH (de_var c 5 rfl (by decide)) de_int (fun _ _ => rfl)) de_str (nomark _)))))) (db_one (ds_ret de_bl)) (db_one (ds_if (dt_not (dt_val (de_fn c (h__law_is_pick.up (by decide)) 7 rfl (da_cons (de_var c 0 rfl (by decide)) (da_cons (de_var c 1 rfl (by decide)) (da_cons (de_ix c.roomH (de_var c 5 rfl (by decide)) de_int (fun _ _ => rfl)) da_nil)))))) (db_one (ds_ret de_bl)) (db_one (ds_if (dt_cmp (o_gt c.roomH) (de_callB (id := "max") c (c_max1 c.calm c.roomH) 8 rfl T.z_max (by decide +kernel) (da_cons (de_lc c (lc_ok c [(".0", 6), ("_law_place", 7), ("_law_number", 8)] [6, 7, 8, 1, 0] [6, 7, 8] ["_law_cost"] ["_law_drawing_here", "_law_stock"] (by decide +kernel) (di_enum c 9 rfl T.z_enumerate (da_cons (de_ix c.roomH (de_var c 5 rfl (by decide)) de_int (fun _ _ => rfl)) da_nil)) (by decide) (fun _ c18 => (dg_tup c18 (dgs_cons (dg_name c18 [6, 7, 8] 7 rfl (by decide) (by decide)) (dgs_cons (dg_name c18 [6, 7, 8] 8 rfl (by decide) (by decide)) (dgs_nil [6, 7, 8]))) (asks_cons (asks_cons asks_nil)))) (fun _ c18 => dts_nil) (fun _ c18 => (de_fn c18 (h__law_cost.up (by decide)) 0 rfl (da_cons (de_var c18 0 rfl (by decide)) (da_cons (de_var c18 1 rfl (by decide)) (da_cons (de_var c18 7 rfl (by decide)) (da_cons (de_var c18 8 rfl (by decide)) da_nil)))))))) da_nil)) (de_var c 2 rfl (by decide)) (nomark _)) (db_one (ds_ret de_bl)) db_nil)))))))))))
    (db_one (ds_ret de_bl))))
theorem h__law_right {M : Md} (T : Hs M) (h__law_cost : Has M false 1 "_law_cost" ["_law_stock", "_law_drawing_here", "_law_place", "_law_number"] m__law_cost) (h__law_fewest_places : Has M false 3 "_law_fewest_places" ["_law_stock", "_law_drawing_here", "_law_most"] m__law_fewest_places) (h__law_is_pick : Has M false 2 "_law_is_pick" ["_law_stock", "_law_drawing_here", "_law_thing"] m__law_is_pick) (h_within : Has M false 14 "within" ["stock", "drawing", "most"] m_within) (F : TopFn M "_law_right" s__law_right ["_law_stock", "_law_drawing_here", "_law_most"]) : Has M true 15 "_law_right" ["_law_stock", "_law_drawing_here", "_law_most"] m__law_right := has_of F sc__law_right t__law_right rfl rfl (fun X c => b__law_right T h__law_cost h__law_fewest_places h__law_is_pick h_within c)
abbrev s_law : Stmt := topS 45
def B_law : Tb := ⟨["_law_script", "_law_cell", "_law_pen", "_law_stock", "_law_drawing_here", "_law_least", "_law_some", ".0", "_law_kind", "_law_most", "_law_turn"], [0, 1, 2, 3, 4, 5, 6], [0, 1, 2, 3, 4, 5, 6], [0, 1, 2, 5, 6], ["_law_cell_at", "_law_pen_of", "_law_small", "_law_drawing", "sum", "len", "range", "repr", "_law_draw", "max", "min", "all"], ["_law_stock", "_law_drawing_here"], true, true, none⟩
theorem sc_law : FnScope B_law.N ["_law_script"] (defScope s_law) := ⟨rfl, rfl, rfl, by decide +kernel, rfl, by decide +kernel, by decide +kernel⟩
theorem t_law : fnT B_law (defScope s_law) = true := by decide +kernel
noncomputable def d_law_l1 : En → Sto → SR :=
    (sWp [1, 2, 3, 4, 5, 6] (sSeq (sSet 2 (eCall m__law_pen_of (aCons (eVar 1) aNil)))
    (sSeq (sAsg (gTp (gCn (gN 3) (gCn (gN 4) gNl))) (eTup (aCons (eCall m__law_small (aCons (eVar 2) (aCons (eK (.int 8)) aNil))) (aCons (eCall m__law_drawing (aCons (eVar 2) aNil)) aNil))))
    (sSeq (sSet 5 (eK .none))
    (sSeq (sIf (tBl (eOp2 geD (eOpN sumF (aCons (eLc (cSeq (eVar 3)) (gN 8) tYs (eOp2 ixD (eVar 8) (eK (.int 3))) [7, 8]) aNil)) (eOpN lenF (aCons (eVar 4) aNil)))) (sSet 5 (eOp2 ixD (eLc (cRg1 (aCons (eK (.int 21)) aNil)) (gN 9) (tBl (eOp2 isND (eCall m__law_fewest_places (aCons (eVar 3) (aCons (eVar 4) (aCons (eVar 9) aNil)))) (eK .none))) (eVar 9) [7, 9]) (eK (.int 0)))) sNil)
    (sSeq (sIf (tBl (eOp2 neD (eOpN reprF (aCons (eLc (cRg1 (aCons (eK (.int 2)) aNil)) (gN 10) tYs (eCall m_least_greatest (aCons (eVar 3) (aCons (eVar 4) aNil))) [7, 10]) aNil)) (eOpN reprF (aCons (eLst (aCons (eVar 5) (aCons (eVar 5) aNil))) aNil)))) (sRet (eK (.bool false))) sNil)
    (sSeq (sSet 6 (eLst (aCons (eK (.int 0)) (aCons (eK (.int 20)) (aCons (eCall m__law_draw (aCons (eVar 2) (aCons (eK (.int 21)) aNil))) (aCons (eCall m__law_draw (aCons (eVar 2) (aCons (eK (.int 5)) aNil))) aNil))))))
    (sSeq (sIf (tBl (eOp2 ntND (eVar 5) (eK .none))) (sSet 6 (eOp2 addD (eVar 6) (eLst (aCons (eVar 5) (aCons (eOpN max2F (aCons (eK (.int 0)) (aCons (eOp2 subD (eVar 5) (eK (.int 1))) aNil))) (aCons (eOpN min2F (aCons (eK (.int 20)) (aCons (eOp2 addD (eVar 5) (eK (.int 1))) aNil))) aNil)))))) sNil)
    (sIf (tNot1 (tTru (eOpN allF (aCons (eLc (cSeq (eVar 6)) (gN 9) tYs (eCall m__law_right (aCons (eVar 3) (aCons (eVar 4) (aCons (eVar 9) aNil)))) [7, 9]) aNil)))) (sRet (eK (.bool false))) sNil)))))))))
noncomputable def d_law : En → Sto → SR :=
    (sSeq (sFor (cSeq (eOp2 addD (eLst (aCons (eCall m__law_cell_at (aCons (eVar 0) (aCons (eK (.int 0)) aNil))) aNil)) (eSlice (eVar 0) (pSome (eK (.int 1))) (pSome (eK (.int 3)))))) (gN 1) d_law_l1)
    (sRet (eK (.bool true))))
noncomputable def m_law : List Wv → Sto → Rs Wv := mkF 1 11 d_law
theorem b_law {M : Md} {X : Cx} (T : Hs M) (h__law_cell_at : Has M false 1 "_law_cell_at" ["_law_script", "_law_k"] m__law_cell_at) (h__law_draw : Has M false 2 "_law_draw" ["_law_pen", "_law_many"] m__law_draw) (h__law_drawing : Has M false 3 "_law_drawing" ["_law_pen"] m__law_drawing) (h__law_fewest_places : Has M false 3 "_law_fewest_places" ["_law_stock", "_law_drawing_here", "_law_most"] m__law_fewest_places) (h__law_pen_of : Has M false 1 "_law_pen_of" ["_law_cell"] m__law_pen_of) (h__law_right : Has M true 15 "_law_right" ["_law_stock", "_law_drawing_here", "_law_most"] m__law_right) (h__law_small : Has M false 3 "_law_small" ["_law_pen", "_law_most"] m__law_small) (h_least_greatest : Has M false 14 "least_greatest" ["stock", "drawing"] m_least_greatest) (c : Cxt M X B_law 15) : DB X (defBody s_law) d_law :=
    (db_cons (ds_for c [1] (di_seq (de_bin o_add (de_lst (da_cons (de_fn c (h__law_cell_at.up (by decide)) 0 rfl (da_cons (de_var c 0 rfl (by decide)) (da_cons de_int da_nil))) da_nil)) (de_slice (de_var c 0 rfl (by decide)) (do_some de_int) (do_some de_int)))) (dg_name c [1] 1 rfl (by decide) (by decide))
    (db_wp [1, 2, 3, 4, 5, 6] (db_cons (ds_set c 2 rfl (by decide) (de_fn c (h__law_pen_of.up (by decide)) 1 rfl (da_cons (de_var c 1 rfl (by decide)) da_nil)))
    (db_cons (ds_asg (de_tup (da_cons (de_fn c (h__law_small.up (by decide)) 2 rfl (da_cons (de_var c 2 rfl (by decide)) (da_cons de_int da_nil))) (da_cons (de_fn c (h__law_drawing.up (by decide)) 3 rfl (da_cons (de_var c 2 rfl (by decide)) da_nil)) da_nil))) (dg_tup c (dgs_cons (dg_name c [3, 4] 3 rfl (by decide) (by decide)) (dgs_cons (dg_name c [3, 4] 4 rfl (by decide) (by decide)) (dgs_nil [3, 4]))) (asks_cons (asks_cons asks_nil))) (hw := sw2n c (.inl (by decide +kernel))))
    (db_cons (ds_set c 5 rfl (by decide) de_non)
    (db_cons (ds_if (dt_cmp (o_ge c.roomH) (de_callB (id := "sum") c (c_sum c.calm) 4 rfl T.z_sum (by decide +kernel) (da_cons (de_lc c (lc_ok c [(".0", 7), ("_law_kind", 8)] [7, 8] [7, 8] [] [] (by decide +kernel) (di_seq (de_var c 3 rfl (by decide))) (by decide) (fun _ c19 => (dg_name c19 [7, 8] 8 rfl (by decide) (by decide))) (fun _ c19 => dts_nil) (fun _ c19 => (de_ix c19.roomH (de_var c19 8 rfl (by decide)) de_int (fun _ _ => rfl))))) da_nil)) (de_callB (id := "len") c c_len 5 rfl T.z_len (by decide +kernel) (da_cons (de_var c 4 rfl (by decide)) da_nil)) (nomark _)) (db_one (ds_set c 5 rfl (by decide) (de_ix c.roomH (de_lc c (lc_ok c [(".0", 7), ("_law_most", 9)] [7, 9, 4, 3] [7, 9] ["_law_fewest_places"] ["_law_drawing_here", "_law_stock"] (by decide +kernel) (di_range1 c 6 rfl T.z_range (da_cons de_int da_nil)) (by decide) (fun _ c20 => (dg_name c20 [7, 9] 9 rfl (by decide) (by decide))) (fun _ c20 => (dts_one (dt_cmp o_isN (de_fn c20 (h__law_fewest_places.up (by decide)) 0 rfl (da_cons (de_var c20 3 rfl (by decide)) (da_cons (de_var c20 4 rfl (by decide)) (da_cons (de_var c20 9 rfl (by decide)) da_nil)))) de_non (nomark _)))) (fun _ c20 => (de_var c20 9 rfl (by decide))))) de_int (fun _ _ => rfl)))) db_nil)
    (db_cons (ds_if (dt_cmp (o_ne c.roomH) (de_callB (id := "repr") c (c_repr c.roomH (c.gu rfl) (c.sm T.sm)) 7 rfl T.z_repr (by decide +kernel) (da_cons (de_lc c (lc_ok c [(".0", 7), ("_law_turn", 10)] [7, 10, 4, 3] [7, 10] ["least_greatest"] ["_law_drawing_here", "_law_stock"] (by decide +kernel) (di_range1 c 6 rfl T.z_range (da_cons de_int da_nil)) (by decide) (fun _ c21 => (dg_name c21 [7, 10] 10 rfl (by decide) (by decide))) (fun _ c21 => dts_nil) (fun _ c21 => (de_fn c21 (h_least_greatest.up (by decide)) 0 rfl (da_cons (de_var c21 3 rfl (by decide)) (da_cons (de_var c21 4 rfl (by decide)) da_nil)))))) da_nil)) (de_callB (id := "repr") c (c_repr c.roomH (c.gu rfl) (c.sm T.sm)) 7 rfl T.z_repr (by decide +kernel) (da_cons (de_lst (da_cons (de_var c 5 rfl (by decide)) (da_cons (de_var c 5 rfl (by decide)) da_nil))) da_nil)) (nomark _)) (db_one (ds_ret de_bl)) db_nil)
    (db_cons (ds_set c 6 rfl (by decide) (de_lst (da_cons de_int (da_cons de_int (da_cons (de_fn c (h__law_draw.up (by decide)) 8 rfl (da_cons (de_var c 2 rfl (by decide)) (da_cons de_int da_nil))) (da_cons (de_fn c (h__law_draw.up (by decide)) 8 rfl (da_cons (de_var c 2 rfl (by decide)) (da_cons de_int da_nil))) da_nil))))))
    (db_cons (ds_if (dt_cmp o_ntN (de_var c 5 rfl (by decide)) de_non (nomark _)) (db_one (ds_set c 6 rfl (by decide) (de_bin o_add (de_var c 6 rfl (by decide)) (de_lst (da_cons (de_var c 5 rfl (by decide)) (da_cons (de_callB (id := "max") c (c_max2 c.calm) 9 rfl T.z_max (by decide +kernel) (da_cons de_int (da_cons (de_bin o_sub (de_var c 5 rfl (by decide)) de_int) da_nil))) (da_cons (de_callB (id := "min") c (c_min2 c.calm) 10 rfl T.z_min (by decide +kernel) (da_cons de_int (da_cons (de_bin o_add (de_var c 5 rfl (by decide)) de_int) da_nil))) da_nil))))))) db_nil)
    (db_one (ds_if (dt_not (dt_val (de_callB (id := "all") c (c_all c.calm) 11 rfl T.z_all (by decide +kernel) (da_cons (de_lc c (lc_ok c [(".0", 7), ("_law_most", 9)] [7, 9, 4, 3] [7, 9] ["_law_right"] ["_law_drawing_here", "_law_stock"] (by decide +kernel) (di_seq (de_var c 6 rfl (by decide))) (by decide) (fun _ c22 => (dg_name c22 [7, 9] 9 rfl (by decide) (by decide))) (fun _ c22 => dts_nil) (fun _ c22 => (de_fn c22 (h__law_right.up (by decide)) 0 rfl (da_cons (de_var c22 3 rfl (by decide)) (da_cons (de_var c22 4 rfl (by decide)) (da_cons (de_var c22 9 rfl (by decide)) da_nil))))))) da_nil)))) (db_one (ds_ret de_bl)) db_nil)))))))))))
    (db_one (ds_ret de_bl)))
end
section
variable [Tbl]
theorem r_cell_at (ns : List Int) (k : Nat) (st : Sto) : m__law_cell_at [.d (.list (ns.map .int)), .d (.int (k : Nat))] st = .ok (.d (.int (ns.getD k 0))) st := by
  unfold m__law_cell_at d__law_cell_at
  by_cases h : k < ns.length
  · have h2 : (k : Int) < ns.length := by omega
    simp [h2, atD_nat, h]
  · have h2 : ¬ (k : Int) < ns.length := by omega
    simp [h2, h]
theorem big_l {i j : Int} (h : 0 ≤ i) (h2 : i < 2147483648) : bigOk i j = true := by
  unfold bigOk
  rw [decide_eq_true (show i.natAbs < 18446744073709551616 by omega)]
  rfl
def nxI (s : Int) : Int := (((s + 7919) % 2147483647) * ((s + 7919) % 2147483647) + 48271 * ((s + 7919) % 2147483647) + 12345) % 2147483629
theorem r_next (s : Int) (st : Sto) : m__law_next [.d (.int s)] st = .ok (.d (.int (nxI s))) st := by
  unfold m__law_next d__law_next
  have h1 : 0 ≤ (s + 7919) % 2147483647 := by omega
  have h2 : (s + 7919) % 2147483647 < 2147483648 := by omega
  simp [big_l h1 h2, big_l (i := 48271) (by decide) (by decide), nxI]
theorem r_pen_of (c : Int) (st : Sto) : ∃ a b d : Int, m__law_pen_of [.d (.int c)] st = .ok (.r st.length) (st ++ [.lst [.int a, .int b, .int d]]) := by
  unfold m__law_pen_of d__law_pen_of
  simp [newW]
theorem r_draw {p : Nat} {st : Sto} (n : Int) (h : Pen p st) (h0 : 0 < n) (h1 : n < 1606938044258990275541962092341162602522202993782792835301376) : ∃ (v : Int) (st' : Sto), m__law_draw [.r p, .d (.int n)] st = .ok (.d (.int v)) st' ∧ 0 ≤ v ∧ v < n ∧ Pn p st st' := by
  obtain ⟨a, b, c, e⟩ := id h
  have hp : p < st.length := (List.getElem?_eq_some_iff.mp e).1
  have dv : ∀ i, divD (.int i) (.int n) = some (.int (i / n)) := fun i => divD_ok h0 h1
  have d64 : ∀ i, divD (.int i) (.int 64) = some (.int (i / 64)) := fun i => rfl
  unfold m__law_draw d__law_draw
  have ix0 : ixN 3 0 = some 0 := rfl
  have ix2 : ixN 3 2 = some 2 := rfl
  by_cases q : b = 1 ∧ 0 < a
  · obtain ⟨rfl, q2⟩ := q
    refine ⟨a % n, st.set p (.lst [.int (a / n), .int 1, .int c]), ?_, Int.emod_nonneg _ (by omega), Int.emod_lt_of_pos a h0, .set h _ _ _⟩
    have hl : (st.set p (.lst [.int (a / n), .int 1, .int c])).length = st.length := by simp
    simp [-o_div_i, look1_l e, q2, h0, dv, sixW, setW_l e (t := 0) (q := 0) rfl]
  · have hs : ∀ x, (st.set p (.lst [.int a, .int b, .int x]))[p]? = some (.lst [.int a, .int b, .int x]) := fun x => List.getElem?_set_self hp
    refine ⟨nxI (nxI c + 7) / 64 % n, st.set p (.lst [.int a, .int b, .int (nxI (nxI c + 7))]), ?_, Int.emod_nonneg _ (by omega), Int.emod_lt_of_pos _ h0, .set h _ _ _⟩
    simp [-o_div_i, look1_l e, q, h0, d64, sixW, setW_l e (t := 2) (q := 2) rfl, r_next, look1_l (hs _)]
/-- the law's own loop over the cells, all other slots given up behind each -/
theorem outer_w {body : En → Sto → SR} {n : Nat} {K : Int} (turn : ∀ (sc : Wv) (c : Int) (st : Sto), ∃ st', body (some sc :: some (.d (.int c)) :: List.replicate n none) st = .nx (some sc :: List.replicate (n + 1) none) st') (ns : List Int) (h : ns.length ≤ 63) :
    ∃ st, mkF 1 (n + 2) (sSeq (sFor (cSeq (eOp2 addD (eLst (aCons (eCall m__law_cell_at (aCons (eVar 0) (aCons (eK (.int 0)) aNil))) aNil)) (eSlice (eVar 0) (pSome (eK (.int 1))) (pSome (eK (.int K)))))) (gN 1) body) (sRet (eK (.bool true)))) [.d (.list (ns.map .int))] [] = .ok (.d (.bool true)) st := by
  have e0 := r_cell_at ns 0 []
  have ec : cutD (ns.map PyData.int) (some 1) (some K) = (cutD ns (some 1) (some K)).map .int := by unfold cutD; simp
  obtain ⟨env, st, e1, rfl⟩ := forL_go (g := gN 1) (b := body) (fun env _ => env = some (.d (.list (ns.map .int))) :: List.replicate (n + 1) none) (.int (ns.getD 0 0) :: (cutD ns (some 1) (some K)).map .int) (fun x hx env st hI => by
    subst hI
    obtain ⟨i, rfl⟩ : ∃ i, x = .int i := by
      rcases List.mem_cons.mp hx with rfl | q
      · exact ⟨_, rfl⟩
      · obtain ⟨i, _, rfl⟩ := List.mem_map.mp q
        exact ⟨i, rfl⟩
    obtain ⟨st', e⟩ := turn (.d (.list (ns.map .int))) i st
    exact ⟨_, _, _, rfl, e, rfl⟩) (some (.d (.list (ns.map .int))) :: List.replicate (n + 1) none) [] rfl
  have hl : (cutD ns (some 1) (some K)).length ≤ 63 := Nat.le_trans cutD_len h
  have e0' : m__law_cell_at [.d (.list (ns.map .int)), .d (.int 0)] [] = .ok (.d (.int (ns.getD 0 0))) [] := e0
  refine ⟨[], ?_⟩
  generalize ns.getD 0 0 = c0 at *
  have hl2 : (cutD ns (some 1) (some K)).length + 1 ≤ 1000000 := by omega
  have e2 : List.replicate (n + 2 - 1) (none : Option Wv) = List.replicate (n + 1) none := rfl
  simp [e0', lstW, ec, Nat.add_comm 1, hl2, srcW, e2]
  simp at e1
  simp [e1]
end
section
variable [Tbl]
open PySem.W (Datum DatumOrd Tup T3 T4)
/-! ## stocks: stones that rise strictly, how many of each -/
abbrev Stn := Int × Int × Int
def slt (s t : Stn) : Prop := s.1 < t.1 ∨ (s.1 = t.1 ∧ (s.2.1 < t.2.1 ∨ (s.2.1 = t.2.1 ∧ s.2.2 < t.2.2)))
instance (s t : Stn) : Decidable (slt s t) := by unfold slt; infer_instance
theorem slt_irr (s : Stn) : ¬ slt s s := by unfold slt; omega
theorem slt_trans {s t u : Stn} (h : slt s t) (k : slt t u) : slt s u := by unfold slt at *; omega
theorem slt_tot (s t : Stn) : s = t ∨ slt s t ∨ slt t s := by
  obtain ⟨a, b, c⟩ := s
  obtain ⟨d, e, f⟩ := t
  unfold slt
  simp only [Prod.mk.injEq]
  omega
abbrev Stk := List (Stn × Int)
def cntS (L : Stk) (s : Stn) : Int := match L.find? fun k => decide (k.1 = s) with
  | some k => k.2
  | none => 0
theorem cntS_nil (s : Stn) : cntS [] s = 0 := rfl
theorem cntS_cons (k : Stn × Int) (L : Stk) (s : Stn) : cntS (k :: L) s = if k.1 = s then k.2 else cntS L s := by
  unfold cntS
  rw [List.find?_cons]
  by_cases h : k.1 = s
  · rw [if_pos h, decide_eq_true h]
  · rw [if_neg h, decide_eq_false h]
structure SOk (L : Stk) : Prop where
  pw : L.Pairwise (fun j k => slt j.1 k.1)
  b : ∀ k ∈ L, 1 ≤ k.2
theorem SOk.tail {k : Stn × Int} {L : Stk} (h : SOk (k :: L)) : SOk L := ⟨(List.pairwise_cons.mp h.pw).2, fun j hj => h.b j (by simp [hj])⟩
theorem cntS_low {L : Stk} {s : Stn} (h : ∀ k ∈ L, slt s k.1) : cntS L s = 0 := by
  induction L with
  | nil => rfl
  | cons k L ih =>
    rw [cntS_cons, if_neg (fun e => slt_irr s (by have := h k (by simp); rw [e] at this; exact this)), ih fun j hj => h j (by simp [hj])]
theorem SOk.uniq : ∀ {L M : Stk}, SOk L → SOk M → (∀ s, cntS L s = cntS M s) → L = M
  | [], [], _, _, _ => rfl
  | [], k :: M, _, hM, h => by
    have := h k.1
    rw [cntS_nil, cntS_cons, if_pos rfl] at this
    have := hM.b k (by simp)
    omega
  | k :: L, [], hL, _, h => by
    have := h k.1
    rw [cntS_nil, cntS_cons, if_pos rfl] at this
    have := hL.b k (by simp)
    omega
  | j :: L, k :: M, hL, hM, h => by
    have pj := (List.pairwise_cons.mp hL.pw).1
    have pk := (List.pairwise_cons.mp hM.pw).1
    have bj := hL.b j (by simp)
    have bk := hM.b k (by simp)
    have e : j.1 = k.1 := by
      rcases slt_tot j.1 k.1 with q | q | q
      · exact q
      · have h1 := h j.1
        rw [cntS_cons, if_pos rfl, cntS_low (L := k :: M) (fun x hx => by
          rcases List.mem_cons.mp hx with rfl | hx
          · exact q
          · exact slt_trans q (pk x hx))] at h1
        omega
      · have h1 := h k.1
        rw [cntS_cons (k := k), if_pos rfl, cntS_low (L := j :: L) (fun x hx => by
          rcases List.mem_cons.mp hx with rfl | hx
          · exact q
          · exact slt_trans q (pj x hx))] at h1
        omega
    have e2 : j.2 = k.2 := by
      have h1 := h j.1
      rw [cntS_cons, if_pos rfl, cntS_cons, if_pos e.symm] at h1
      exact h1
    have ej : j = k := Prod.ext e e2
    subst ej
    rw [SOk.uniq hL.tail hM.tail fun s => ?_]
    have h1 := h s
    rw [cntS_cons, cntS_cons] at h1
    by_cases q : j.1 = s
    · subst q
      rw [cntS_low pj, cntS_low pk]
    · rw [if_neg q, if_neg q] at h1
      exact h1
end
section
variable [Tbl]
open PySem.W (Datum DatumOrd Tup T3 T4)
/-! ## sorted stocks -/
def t4 (k : Stn × Int) : T4 Int Int Int Int := ⟨k.1.1, k.1.2.1, k.1.2.2, k.2⟩
def eKd (k : Stn × Int) : PyData := .tuple [.int k.1.1, .int k.1.2.1, .int k.1.2.2, .int k.2]
theorem eKd_t4 (k : Stn × Int) : eKd k = Datum.toD (t4 k) := rfl
theorem lt_kind {j k : Stn × Int} (h : j.1 ≠ k.1) : PySem.W.dataLt (eKd j) (eKd k) = decide (slt j.1 k.1) := by
  rw [eKd_t4, eKd_t4, DatumOrd.lt_eq]
  obtain ⟨⟨a, b, c⟩, m⟩ := j
  obtain ⟨⟨d, e, f⟩, n⟩ := k
  show (if a = d then (if b = e then (if c = f then decide (m < n) else decide (c < f)) else decide (b < e)) else decide (a < d)) = _
  have h : ¬ ((a, b, c) : Stn) = (d, e, f) := h
  simp only [Prod.mk.injEq] at h
  rw [Bool.eq_iff_iff, decide_eq_true_iff]
  unfold slt
  dsimp only
  split
  · split
    · split
      · rename_i h1 h2 h3; exact absurd ⟨h1, h2, h3⟩ h
      · rw [decide_eq_true_iff]; omega
    · rw [decide_eq_true_iff]; omega
  · rw [decide_eq_true_iff]; omega
def sortK (Q : Stk) : Stk := sortT false eKd Q
theorem sortK_perm (Q : Stk) : (sortK Q).Perm Q := sortT_perm ..
theorem cntS_iff {L : Stk} (nd : (L.map (·.1)).Nodup) {s : Stn} {m : Int} (h : (s, m) ∈ L) : cntS L s = m := by
  induction L with
  | nil => cases h
  | cons k L ih =>
    rw [List.map_cons, List.nodup_cons] at nd
    rw [cntS_cons]
    rcases List.mem_cons.mp h with e | h
    · rw [← e, if_pos rfl]
    · have : k.1 ≠ s := fun e => nd.1 (by rw [e]; exact List.mem_map.mpr ⟨_, h, rfl⟩)
      rw [if_neg this]
      exact ih nd.2 h
theorem sortK_ok {Q : Stk} (nd : (Q.map (·.1)).Nodup) (b : ∀ k ∈ Q, 1 ≤ k.2) : SOk (sortK Q) := by
  have p := sortK_perm Q
  have ndS : ((sortK Q).map (·.1)).Nodup := (p.map (·.1)).nodup_iff.mpr nd
  refine ⟨?_, fun k hk => b k (p.mem_iff.mp hk)⟩
  have tr : ∀ a b c : Stn × Int, PySem.W.dataLe false eKd a b = true → PySem.W.dataLe false eKd b c = true → PySem.W.dataLe false eKd a c = true := by
    intro x y z h1 h2
    have lt : ∀ j k : Stn × Int, PySem.W.dataLt (eKd j) (eKd k) = decide (slt j.1 k.1 ∨ (j.1 = k.1 ∧ j.2 < k.2)) := fun j k => by
      by_cases e : j.1 = k.1
      · rw [eKd_t4, eKd_t4, DatumOrd.lt_eq]
        obtain ⟨⟨a, b, c⟩, m⟩ := j
        obtain ⟨⟨d, e', f⟩, n⟩ := k
        cases e
        show (if a = a then (if b = b then (if c = c then decide (m < n) else decide (c < c)) else decide (b < b)) else decide (a < a)) = _
        rw [if_pos rfl, if_pos rfl, if_pos rfl, Bool.eq_iff_iff, decide_eq_true_eq, decide_eq_true_eq]
        exact ⟨fun h => .inr ⟨rfl, h⟩, fun h => h.elim (fun q => absurd q (slt_irr _)) fun q => q.2⟩
      · rw [lt_kind e, Bool.eq_iff_iff, decide_eq_true_eq, decide_eq_true_eq]
        exact ⟨.inl, fun h => h.elim id fun q => absurd q.1 e⟩
    have h1 : (!PySem.W.dataLt (eKd y) (eKd x)) = true := h1
    have h2 : (!PySem.W.dataLt (eKd z) (eKd y)) = true := h2
    show (!PySem.W.dataLt (eKd z) (eKd x)) = true
    rw [lt, Bool.not_eq_true', decide_eq_false_iff_not] at *
    intro h
    obtain ⟨⟨x1, x2, x3⟩, xm⟩ := x
    obtain ⟨⟨y1, y2, y3⟩, ym⟩ := y
    obtain ⟨⟨z1, z2, z3⟩, zm⟩ := z
    unfold slt at *
    simp only [Prod.mk.injEq] at *
    omega
  have tot : ∀ a b : Stn × Int, (PySem.W.dataLe false eKd a b || PySem.W.dataLe false eKd b a) = true := by
    intro x y
    show ((!PySem.W.dataLt (eKd y) (eKd x)) || (!PySem.W.dataLt (eKd x) (eKd y))) = true
    by_cases e : x.1 = y.1
    · rw [eKd_t4, eKd_t4, DatumOrd.lt_eq, DatumOrd.lt_eq]
      obtain ⟨⟨a, b, c⟩, m⟩ := x
      obtain ⟨⟨d, e', f⟩, n⟩ := y
      cases e
      show ((!(if a = a then (if b = b then (if c = c then decide (n < m) else decide (c < c)) else decide (b < b)) else decide (a < a))) || (!(if a = a then (if b = b then (if c = c then decide (m < n) else decide (c < c)) else decide (b < b)) else decide (a < a)))) = true
      rw [if_pos rfl, if_pos rfl, if_pos rfl, if_pos rfl, if_pos rfl, if_pos rfl]
      by_cases q : n < m
      · rw [decide_eq_true q, decide_eq_false (by omega : ¬ m < n)]; rfl
      · rw [decide_eq_false q]; rfl
    · rw [lt_kind e, lt_kind (fun z => e z.symm)]
      by_cases q : slt y.1 x.1
      · rw [decide_eq_true q, decide_eq_false (fun z => slt_irr _ (slt_trans q z))]; rfl
      · rw [decide_eq_false q]; rfl
  have h := List.pairwise_mergeSort (le := PySem.W.dataLe false eKd) tr tot Q
  have ndp : (sortK Q).Pairwise fun j k => j.1 ≠ k.1 := by
    have := ndS
    unfold List.Nodup at this
    rw [List.pairwise_map] at this
    exact this
  refine (List.Pairwise.and h ndp).imp fun {j k} ⟨q, ne⟩ => ?_
  have q : (!PySem.W.dataLt (eKd k) (eKd j)) = true := q
  rw [lt_kind (fun e => ne e.symm), Bool.not_eq_true', decide_eq_false_iff_not] at q
  rcases slt_tot j.1 k.1 with z | z | z
  · exact absurd z ne
  · exact z
  · exact absurd z q
end
section
variable [Tbl]
/-! ## a stock with so many of a stone -/
theorem SOk.nd {L : Stk} (h : SOk L) : (L.map (·.1)).Nodup := by
  unfold List.Nodup
  rw [List.pairwise_map]
  exact h.pw.imp fun {j k} q => fun e : j.1 = k.1 => slt_irr k.1 (by rw [e] at q; exact q)
end
section
variable [Tbl]
open PySem.W (Datum DatumOrd Tup T3 T4)
/-! ## stocks as data -/
def eSt (s : Stn) : PyData := .tuple [.int s.1, .int s.2.1, .int s.2.2]
def stD (L : Stk) : PyData := .tuple (L.map eKd)
structure Sto1 (s : Stn) : Prop where
  a : 0 ≤ s.1 ∧ s.1 ≤ 20
  b : 0 ≤ s.2.1 ∧ s.2.1 ≤ 9
  c : 1 ≤ s.2.2 ∧ s.2.2 ≤ 20
/-- a stock of at most a hundred kinds -/
structure Sk (L : Stk) : Prop where
  ok : SOk L
  s : ∀ k ∈ L, Sto1 k.1
  n : L.length ≤ 100
theorem lt_stone (s t : Stn) : ltD (eSt s) (eSt t) = some (.bool (decide (slt s t))) := by
  have hT : (eSt s) = Datum.toD (⟨s.1, s.2.1, s.2.2⟩ : T3 Int Int Int) := rfl
  have hU : (eSt t) = Datum.toD (⟨t.1, t.2.1, t.2.2⟩ : T3 Int Int Int) := rfl
  have h : ltD' (eSt s) (eSt t) = true := by
    unfold ltD'
    rw [hT, hU, DatumOrd.alike, Bool.true_and, show isNone (Datum.toD (⟨s.1, s.2.1, s.2.2⟩ : T3 Int Int Int)) = false from rfl, Bool.not_false, Bool.true_and, decide_eq_true_iff]
    exact Nat.le_trans (Nat.min_le_left _ _) (Nat.le_trans (Datum.depth_le _) (by decide))
  show (if ltD' (eSt s) (eSt t) = true then some (PyData.bool (PySem.W.dataLt (eSt s) (eSt t))) else none) = _
  rw [if_pos h, hT, hU, DatumOrd.lt_eq]
  congr 2
  show (if s.1 = t.1 then (if s.2.1 = t.2.1 then decide (s.2.2 < t.2.2) else decide (s.2.1 < t.2.1)) else decide (s.1 < t.1)) = _
  rw [Bool.eq_iff_iff, decide_eq_true_iff]
  unfold slt
  split
  · split
    · rw [decide_eq_true_iff]; omega
    · rw [decide_eq_true_iff]; omega
  · rw [decide_eq_true_iff]; omega
theorem slk (k : Stn × Int) : slD none (some 3) (eKd k) = some (eSt k.1) := rfl
theorem get_mid (st rest : Sto) (o : Ob) : (st ++ o :: rest)[st.length]? = some o := by rw [List.getElem?_append_right (Nat.le_refl _)]; simp
theorem set_mid (st rest : Sto) (o o' : Ob) : (st ++ o :: rest).set st.length o' = st ++ o' :: rest := by rw [List.set_append_right _ _ (Nat.le_refl _)]; simp
theorem take_mid (st rest : Sto) : (st ++ rest).take st.length = st := by simp
theorem srt_kinds (Q : Stk) (h : Q.length ≤ 1000000) : srtF false [.list (Q.map eKd)] = some (.list ((sortK Q).map eKd)) := by
  refine srtF_of ?_
  rw [srt_ok (sortB_of (P := fun d => ∃ k, d = eKd k) (fun d hd => by obtain ⟨k, _, rfl⟩ := List.mem_map.mp hd; exact ⟨k, rfl⟩) (fun _ _ ⟨x, hx⟩ ⟨y, hy⟩ => by rw [hx, hy, eKd_t4, eKd_t4]; exact DatumOrd.alike _ _) (.inl fun _ ⟨k, hk⟩ => ⟨_, _, hk⟩)) (fun d hd => by
    obtain ⟨k, _, rfl⟩ := List.mem_map.mp hd
    rw [eKd_t4]
    exact Nat.le_trans (Datum.depth_le _) (by decide)) (by simpa using h), sortD_map]
  rfl
/-! ## few kinds where no more of each -/
theorem nd_len {α : Type} [DecidableEq α] : ∀ {xs ys : List α}, xs.Nodup → (∀ x ∈ xs, x ∈ ys) → xs.length ≤ ys.length
  | [], _, _, _ => Nat.zero_le _
  | x :: xs, ys, h, hs => by
    rw [List.nodup_cons] at h
    have hx := hs x (by simp)
    have := nd_len (xs := xs) (ys := ys.erase x) h.2 fun y hy => (List.mem_erase_of_ne (fun e => h.1 (by rw [← e]; exact hy))).mpr (hs y (by simp [hy]))
    rw [List.length_erase_of_mem hx] at this
    have := List.length_pos_of_mem hx
    rw [List.length_cons]; omega
theorem cnt_has {L : Stk} {s : Stn} (h : 1 ≤ cntS L s) : s ∈ L.map (·.1) := by
  induction L with
  | nil => rw [cntS_nil] at h; omega
  | cons k L ih =>
    rw [cntS_cons] at h
    split at h
    · rename_i e; rw [List.map_cons, e]; simp
    · rw [List.map_cons]; exact List.mem_cons_of_mem _ (ih h)
theorem sub_keys {X L : Stk} (h : SOk X) (hc : ∀ s, cntS X s ≤ cntS L s) {k : Stn × Int} (hk : k ∈ X) : k.1 ∈ L.map (·.1) := by
  refine cnt_has ?_
  have := hc k.1
  rw [cntS_iff h.nd (m := k.2) hk] at this
  have := h.b k hk
  omega
theorem sub_len {X L : Stk} (h : SOk X) (hc : ∀ s, cntS X s ≤ cntS L s) : X.length ≤ L.length := by
  have := nd_len (xs := X.map (·.1)) (ys := L.map (·.1)) h.nd fun s hs => by
    obtain ⟨k, hk, rfl⟩ := List.mem_map.mp hs
    exact sub_keys h hc hk
  simpa using this
theorem Sk.sub {X L : Stk} (hL : Sk L) (h : SOk X) (hc : ∀ s, cntS X s ≤ cntS L s) : Sk X := ⟨h, fun k hk => by
  obtain ⟨j, hj, e⟩ := List.mem_map.mp (sub_keys h hc hk)
  rw [← e]; exact hL.s j hj, Nat.le_trans (sub_len h hc) hL.n⟩
/-! ## the stones told for a length are of the stock -/
end
section
variable [Tbl]
open PySem.W (Datum DatumOrd Tup T3 T4)
/-! ## is_stone, is_stock of any thing -/
def whB (d : PyData) (a b : Int) : Bool := match d with
  | .int i => decide (a ≤ i ∧ i ≤ b)
  | _ => false
def mnB (d : PyData) : Bool := match d with
  | .int i => decide (1 ≤ i)
  | _ => false
theorem r_is_wholeA (d : PyData) (a b : Int) (st : Sto) : m_is_whole [.d d, (.d (.int (a))), (.d (.int (b)))] st = .ok (.d (.bool (whB d a b))) st := by
  unfold m_is_whole d_is_whole
  cases d with
  | int i =>
    unfold whB
    by_cases h : a ≤ i
    · by_cases h2 : i ≤ b <;> simp [h, h2]
    · simp [h]
  | _ => simp [whB]
theorem r_is_manyA (d : PyData) (st : Sto) : m_is_many [.d d] st = .ok (.d (.bool (mnB d))) st := by
  unfold m_is_many d_is_many
  cases d with
  | int i =>
    unfold mnB
    by_cases h : 1 ≤ i <;> simp [h]
  | _ => simp [mnB]
def isStn (d : PyData) : Bool := match d with
  | .tuple [x, y, z] => whB x 0 20 && (whB y 0 9 && whB z 1 20)
  | _ => false
theorem whB_iff {d : PyData} {a b : Int} : whB d a b = true ↔ ∃ i, d = .int i ∧ a ≤ i ∧ i ≤ b := by
  constructor
  · intro h
    cases d with
    | int i => exact ⟨i, rfl, of_decide_eq_true h⟩
    | _ => cases h
  · rintro ⟨i, rfl, h⟩
    exact decide_eq_true h
theorem isStn_iff {d : PyData} : isStn d = true ↔ ∃ s, Sto1 s ∧ d = eSt s := by
  constructor
  · intro h
    unfold isStn at h
    split at h
    · rw [Bool.and_eq_true, Bool.and_eq_true] at h
      obtain ⟨h1, h2, h3⟩ := h
      obtain ⟨a, rfl, g1⟩ := whB_iff.mp h1
      obtain ⟨b, rfl, g2⟩ := whB_iff.mp h2
      obtain ⟨c, rfl, g3⟩ := whB_iff.mp h3
      exact ⟨(a, b, c), ⟨g1, g2, g3⟩, rfl⟩
    · cases h
  · rintro ⟨s, hs, rfl⟩
    show (decide (0 ≤ s.1 ∧ s.1 ≤ 20) && (decide (0 ≤ s.2.1 ∧ s.2.1 ≤ 9) && decide (1 ≤ s.2.2 ∧ s.2.2 ≤ 20))) = true
    rw [decide_eq_true hs.a, decide_eq_true hs.b, decide_eq_true hs.c]; rfl
/-- a stone's three parts -/
theorem and3 (f : PyData → Int → Int → Bool) (mf : List Wv → Sto → Rs Wv) (hf : ∀ (d : PyData) (a b : Int) (st : Sto), mf [Wv.d d, Wv.d (.int a), Wv.d (.int b)] st = .ok (.d (.bool (f d a b))) st) (x y z : PyData) (env : En) (st : Sto) :
    (eAnd2 (fun _ st => mf [Wv.d x, Wv.d (.int 0), Wv.d (.int 20)] st) (eAnd2 (fun _ st => mf [Wv.d y, Wv.d (.int 0), Wv.d (.int 9)] st) (fun _ st => mf [Wv.d z, Wv.d (.int 1), Wv.d (.int 20)] st))) env st = .ok (.d (.bool (f x 0 20 && (f y 0 9 && f z 1 20)))) st := by
  simp only [x_eand, hf, Rs.bind_ok]
  cases f x 0 20 <;> cases f y 0 9 <;> rfl
theorem r_is_stoneA (d : PyData) (st : Sto) : m_is_stone [.d d] st = .ok (.d (.bool (isStn d))) st := by
  unfold m_is_stone d_is_stone
  cases d with
  | tuple xs =>
    match xs with
    | [x, y, z] =>
      have e := and3 whB m_is_whole r_is_wholeA x y z [] st
      show _ = Rs.ok (Wv.d (.bool (whB x 0 20 && (whB y 0 9 && whB z 1 20)))) st
      rw [← e]
      simp -implicitDefEqProofs [w_MOST_SHADE, w_MOST_BATCH, w_MOST_LONG, r_is_wholeA]
    | [] => simp [isStn]
    | [_] => simp [isStn]
    | [_, _] => simp [isStn]
    | _ :: _ :: _ :: _ :: r =>
      have : ¬ ((r.length : Int) + 1 + 1 + 1 + 1 = 3) := by omega
      simp [isStn, this]
  | _ => simp [isStn]
end
section
variable [Tbl]
open PySem.W (Datum DatumOrd Tup T3 T4)
def isKnd (d : PyData) : Bool := match d with
  | .tuple [x, y, z, m] => isStn (.tuple [x, y, z]) && mnB m
  | _ => false
theorem isKnd_iff {d : PyData} : isKnd d = true ↔ ∃ k : Stn × Int, Sto1 k.1 ∧ 1 ≤ k.2 ∧ d = eKd k := by
  constructor
  · intro h
    unfold isKnd at h
    split at h
    · rename_i x y z m
      rw [Bool.and_eq_true] at h
      obtain ⟨s, hs, e⟩ := isStn_iff.mp h.1
      obtain ⟨i, rfl, h2⟩ : ∃ i, m = .int i ∧ 1 ≤ i := by
        have h2 := h.2
        cases m with
        | int i => exact ⟨i, rfl, of_decide_eq_true h2⟩
        | _ => cases h2
      unfold eSt at e
      simp at e
      obtain ⟨rfl, rfl, rfl⟩ := e
      exact ⟨(s, i), hs, h2, rfl⟩
    · cases h
  · rintro ⟨k, hs, h2, rfl⟩
    show (isStn (eSt k.1) && decide (1 ≤ k.2)) = true
    rw [isStn_iff.mpr ⟨_, hs, rfl⟩, decide_eq_true h2]; rfl
theorem r_is_kindA (d : PyData) (st : Sto) : m_is_kind [.d d] st = .ok (.d (.bool (isKnd d))) st := by
  unfold m_is_kind d_is_kind
  cases d with
  | tuple xs =>
    match xs with
    | [x, y, z, m] =>
      have c3 : cutD [x, y, z, m] none (some 3) = [x, y, z] := rfl
      have e1 := fun st => r_is_stoneA (.tuple [x, y, z]) st
      have e2 := fun st => r_is_manyA m st
      show _ = Rs.ok (Wv.d (.bool (isStn (.tuple [x, y, z]) && mnB m))) st
      generalize isStn (.tuple [x, y, z]) = b1 at *
      generalize mnB m = b2 at *
      cases b1 <;> cases b2 <;> simp -implicitDefEqProofs [c3, e1, e2]
    | [] => simp [isKnd]
    | [_] => simp [isKnd]
    | [_, _] => simp [isKnd]
    | [_, _, _] => simp [isKnd]
    | _ :: _ :: _ :: _ :: _ :: r =>
      have : ¬ ((r.length : Int) + 1 + 1 + 1 + 1 + 1 = 4) := by omega
      simp [isKnd, this]
  | _ => simp [isKnd]
/-- a kind's data as what it tells -/
def toK (d : PyData) : Stn × Int := match d with
  | .tuple [.int a, .int b, .int c, .int m] => ((a, b, c), m)
  | _ => ((0, 0, 0), 0)
theorem kinds_map {xs : List PyData} (h : xs.all isKnd = true) : xs = (xs.map toK).map eKd ∧ ∀ k ∈ xs.map toK, Sto1 k.1 ∧ 1 ≤ k.2 := by
  rw [List.all_eq_true] at h
  refine ⟨?_, fun k hk => ?_⟩
  · rw [List.map_map]
    have : xs.map (eKd ∘ toK) = xs.map id := List.map_congr_left fun d hd => by
      obtain ⟨k, _, _, rfl⟩ := isKnd_iff.mp (h d hd); rfl
    rw [this, List.map_id]
  · obtain ⟨d, hd, rfl⟩ := List.mem_map.mp hk
    obtain ⟨k, h1, h2, rfl⟩ := isKnd_iff.mp (h d hd)
    exact ⟨h1, h2⟩
def upP (L : Stk) : Bool := (L.zip (L.drop 1)).all fun p => decide (slt p.1.1 p.2.1)
theorem upP_iff {L : Stk} : upP L = true ↔ L.Pairwise fun j k => slt j.1 k.1 := by
  induction L with
  | nil => simp [upP]
  | cons j L ih =>
    cases L with
    | nil => simp [upP]
    | cons k L =>
      have e : upP (j :: k :: L) = (decide (slt j.1 k.1) && upP (k :: L)) := rfl
      rw [e, Bool.and_eq_true, ih, decide_eq_true_iff, List.pairwise_cons (a := j)]
      constructor
      · rintro ⟨h1, h2⟩
        refine ⟨fun x hx => ?_, h2⟩
        rcases List.mem_cons.mp hx with rfl | hx
        · exact h1
        · exact slt_trans h1 ((List.pairwise_cons.mp h2).1 x hx)
      · rintro ⟨h1, h2⟩
        exact ⟨h1 k (by simp), h2⟩
def isStk (d : PyData) : Bool := match d with
  | .tuple xs => decide (xs.length ≤ 100) && (xs.all isKnd && upP (xs.map toK))
  | _ => false
theorem isStk_iff {d : PyData} : isStk d = true ↔ ∃ L, Sk L ∧ d = stD L := by
  constructor
  · intro h
    unfold isStk at h
    split at h
    · rename_i xs
      rw [Bool.and_eq_true, Bool.and_eq_true, decide_eq_true_iff] at h
      obtain ⟨e, hk⟩ := kinds_map h.2.1
      exact ⟨xs.map toK, ⟨⟨upP_iff.mp h.2.2, fun k hk' => (hk k hk').2⟩, fun k hk' => (hk k hk').1, by rw [List.length_map]; exact h.1⟩, by unfold stD; rw [← e]⟩
    · cases h
  · rintro ⟨L, hL, rfl⟩
    show (decide ((L.map eKd).length ≤ 100) && ((L.map eKd).all isKnd && upP ((L.map eKd).map toK))) = true
    rw [decide_eq_true (by rw [List.length_map]; exact hL.n), List.map_map, show toK ∘ eKd = id from rfl, List.map_id, upP_iff.mpr hL.ok.pw, Bool.true_and, Bool.and_true, List.all_eq_true]
    intro d hd
    obtain ⟨k, hk, rfl⟩ := List.mem_map.mp hd
    exact isKnd_iff.mpr ⟨k, hL.s k hk, hL.ok.b k hk, rfl⟩
theorem zipSl (L : Stk) (st : Sto) : zip2W [.d (.tuple (L.map eKd)), .d (.tuple ((L.drop 1).map eKd))] st = .ok ⟨(L.zip (L.drop 1)).map fun p => PyData.tuple [eKd p.1, eKd p.2], []⟩ st := by
  have : List.zipWith pairD (L.map eKd) ((L.drop 1).map eKd) = (L.zip (L.drop 1)).map fun p => PyData.tuple [eKd p.1, eKd p.2] := by
    rw [List.zipWith_map, List.zip_eq_zipWith, List.map_zipWith]; rfl
  rw [← this]; rfl
theorem r_is_stockA (d : PyData) (st : Sto) : m_is_stock [.d d] st = .ok (.d (.bool (isStk d))) st := by
  cases d with
  | tuple xs =>
    have hl : lenF [.tuple xs] = some (.int (xs.length : Int)) := by simp
    by_cases hn : xs.length ≤ 100
    · have e1 := lcL_mapE (g := gN 2) (c := eCall m_is_kind (aCons (eVar 2) aNil)) (env := [some (.d (.tuple xs)), none, none, none]) (st := st) id (fun d => .bool (isKnd d)) xs [] fun d _ => ⟨_, rfl, by
        have e := fun st => r_is_kindA d st
        simp -implicitDefEqProofs [e]⟩
      rw [List.nil_append, List.map_id] at e1
      have al := o_all' xs isKnd
      have h1 : ¬ (100 : Int) < (xs.length : Int) := by omega
      have h3 : xs.length ≤ 1000000 := by omega
      show _ = Rs.ok (Wv.d (.bool (decide (xs.length ≤ 100) && (xs.all isKnd && upP (xs.map toK))))) st
      rw [decide_eq_true hn, Bool.true_and]
      cases hk : xs.all isKnd with
      | false =>
        rw [hk] at al
        unfold m_is_stock d_is_stock
        simp -implicitDefEqProofs [hl, w_MOST_KINDS, h1, srcW_dt, wipeE, h3, e1, al]
      | true =>
        rw [hk] at al
        obtain ⟨ex, _⟩ := kinds_map hk
        generalize xs.map toK = L at *
        subst ex
        rw [List.length_map] at hn h3
        have cu : cutD (L.map eKd) (some 1) none = (L.drop 1).map eKd := by
          rw [show (1 : Int) = ((1 : Nat) : Int) from rfl, cutD_drop, List.map_drop]
        have zp := zipSl L
        have e2 := lcL_mapE (g := gTp (gCn (gN 2) (gCn (gN 3) gNl))) (c := eOp2 ltD (eSlice (eVar 2) pNo (pSome (eK (.int 3)))) (eSlice (eVar 3) pNo (pSome (eK (.int 3))))) (env := [some (.d (.tuple (L.map eKd))), none, none, none]) (st := st) (fun p : (Stn × Int) × (Stn × Int) => PyData.tuple [eKd p.1, eKd p.2]) (fun p => .bool (decide (slt p.1.1 p.2.1))) (L.zip (L.drop 1)) [] fun p _ => ⟨_, rfl, by
          obtain ⟨j, k⟩ := p
          have e := lt_stone j.1 k.1
          have s1 := slk j
          have s2 := slk k
          dsimp only
          generalize eSt j.1 = EJ at *
          generalize eSt k.1 = EK at *
          generalize eKd j = JD at *
          generalize eKd k = KD at *
          simp -implicitDefEqProofs [s1, s2, e]⟩
        rw [List.nil_append] at e2
        have al2 := o_all' (L.zip (L.drop 1)) fun p => decide (slt p.1.1 p.2.1)
        have h4 : ((L.zip (L.drop 1)).map fun p => PyData.tuple [eKd p.1, eKd p.2]).length ≤ 1000000 := by rw [List.length_map, List.length_zip]; omega
        rw [Bool.true_and]
        show _ = Rs.ok (Wv.d (.bool ((L.zip (L.drop 1)).all fun p => decide (slt p.1.1 p.2.1)))) st
        generalize ((L.zip (L.drop 1)).map fun p => PyData.bool (decide (slt p.1.1 p.2.1))) = T2 at *
        generalize ((L.zip (L.drop 1)).map fun p => PyData.tuple [eKd p.1, eKd p.2]) = ZP at *
        generalize (L.drop 1).map eKd = LD at *
        have h3 : (L.map eKd).length ≤ 1000000 := by rw [List.length_map]; exact h3
        generalize ((L.map eKd).map fun d => PyData.bool (isKnd d)) = T1 at *
        generalize L.map eKd = LK at *
        generalize ((L.zip (L.drop 1)).all fun p => decide (slt p.1.1 p.2.1)) = bb at *
        unfold m_is_stock d_is_stock
        simp -implicitDefEqProofs [hl, w_MOST_KINDS, h1, srcW_dt, wipeE, h3, e1, al, cu, zp, h4, e2, al2]
    · have h1 : (100 : Int) < (xs.length : Int) := by omega
      show _ = Rs.ok (Wv.d (.bool (decide (xs.length ≤ 100) && (xs.all isKnd && upP (xs.map toK))))) st
      rw [decide_eq_false hn, Bool.false_and]
      unfold m_is_stock d_is_stock
      simp -implicitDefEqProofs [hl, w_MOST_KINDS, h1]
  | _ => unfold m_is_stock d_is_stock; simp [isStk]
end
section
variable [Tbl]
open PySem.W (Datum DatumOrd Tup T3 T4)
@[simp] theorem x_end_ex (n : Nat) (e : Xc) (st : Sto) : endS n (.ex e st) = .ex e (st.take n) := rfl
theorem isStk_stD {L : Stk} (h : Sk L) : isStk (stD L) = true := isStk_iff.mpr ⟨L, h, rfl⟩
theorem r_need_stockY {L : Stk} (hL : Sk L) (st : Sto) : m_need_stock [.d (stD L)] st = .ok (.d .none) st := by
  have e1 := fun st => r_is_stockA (stD L) st
  rw [isStk_stD hL] at e1
  generalize stD L = LD at *
  unfold m_need_stock d_need_stock
  simp -implicitDefEqProofs [e1]
end
section
variable [Tbl]
/-! ## drawings and picks, as data -/
/-- a shade's and a kind's number of stones, by index -/
def shS (L : Stk) (i : Nat) : Int := (L.getD i ((0, 0, 0), 0)).1.1
def cpS (L : Stk) (i : Nat) : Int := (L.getD i ((0, 0, 0), 0)).2
/-- what a place misses by a kind -/
def csS (L : Stk) (D : List Int) (p i : Nat) : Int := ((shS L i - D.getD p 0).natAbs : Nat)
def natL (ps : List Nat) : List PyData := ps.map fun n : Nat => .int (n : Int)
def pkD (ps : List Nat) : PyData := .tuple (natL ps)
structure Dr (D : List Int) : Prop where
  l1 : 1 ≤ D.length
  l8 : D.length ≤ 8
  b : ∀ x ∈ D, 0 ≤ x ∧ x ≤ 20
def isDr (d : PyData) : Bool := match d with
  | .tuple xs => decide (1 ≤ xs.length ∧ xs.length ≤ 8) && xs.all fun x => whB x 0 20
  | _ => false
theorem whs_map {xs : List PyData} {a b : Int} (h : (xs.all fun x => whB x a b) = true) : ∃ ns : List Int, xs = ns.map .int ∧ ∀ n ∈ ns, a ≤ n ∧ n ≤ b := by
  induction xs with
  | nil => exact ⟨[], rfl, fun _ h => nomatch h⟩
  | cons x xs ih =>
    rw [List.all_cons, Bool.and_eq_true] at h
    obtain ⟨i, rfl, hi⟩ := whB_iff.mp h.1
    obtain ⟨ns, rfl, hn⟩ := ih h.2
    refine ⟨i :: ns, rfl, fun n hn' => ?_⟩
    rcases List.mem_cons.mp hn' with rfl | q
    · exact hi
    · exact hn n q
theorem isDr_iff {d : PyData} : isDr d = true ↔ ∃ D, Dr D ∧ d = .tuple (D.map .int) := by
  constructor
  · intro h
    unfold isDr at h
    split at h
    · rw [Bool.and_eq_true, decide_eq_true_iff] at h
      obtain ⟨D, rfl, hD⟩ := whs_map h.2
      rw [List.length_map] at h
      exact ⟨D, ⟨h.1.1, h.1.2, hD⟩, rfl⟩
    · cases h
  · rintro ⟨D, hD, rfl⟩
    show (decide (1 ≤ (D.map PyData.int).length ∧ (D.map PyData.int).length ≤ 8) && (D.map PyData.int).all fun x => whB x 0 20) = true
    rw [List.length_map, decide_eq_true ⟨hD.l1, hD.l8⟩, Bool.true_and, List.all_eq_true]
    intro x hx
    obtain ⟨i, hi, rfl⟩ := List.mem_map.mp hx
    exact whB_iff.mpr ⟨i, rfl, hD.b i hi⟩
theorem isDr_D {D : List Int} (h : Dr D) : isDr (.tuple (D.map .int)) = true := isDr_iff.mpr ⟨D, h, rfl⟩
theorem r_is_drawingA (d : PyData) (st : Sto) : m_is_drawing [.d d] st = .ok (.d (.bool (isDr d))) st := by
  cases d with
  | tuple xs =>
    have hl : lenF [.tuple xs] = some (.int (xs.length : Int)) := by simp
    have hd : isDr (.tuple xs) = (decide (1 ≤ xs.length ∧ xs.length ≤ 8) && xs.all fun x => whB x 0 20) := rfl
    by_cases hn : 1 ≤ xs.length ∧ xs.length ≤ 8
    · have e1 := lcL_mapE (g := gN 2) (c := eCall m_is_whole (aCons (eVar 2) (aCons (eK (.int 0)) (aCons (eK w_MOST_SHADE) aNil)))) (env := [some (.d (.tuple xs)), none, none]) (st := st) id (fun d => .bool (whB d 0 20)) xs [] fun d _ => ⟨_, rfl, by
        have e := fun st => r_is_wholeA d 0 20 st
        simp -implicitDefEqProofs [w_MOST_SHADE, e]⟩
      rw [List.nil_append, List.map_id] at e1
      have al := o_all' xs fun d => whB d 0 20
      have h1 : (1 : Int) ≤ (xs.length : Int) := by omega
      have h2 : (xs.length : Int) ≤ 8 := by omega
      have h3 : xs.length ≤ 1000000 := by omega
      rw [hd, decide_eq_true hn, Bool.true_and]
      unfold m_is_drawing d_is_drawing
      simp -implicitDefEqProofs [hl, w_MOST_PLACES, h1, h2, srcW_dt, wipeE, h3, e1, al]
    · rw [hd, decide_eq_false hn, Bool.false_and]
      unfold m_is_drawing d_is_drawing
      by_cases h1 : (1 : Int) ≤ (xs.length : Int)
      · have h2 : ¬ (xs.length : Int) ≤ 8 := by omega
        simp -implicitDefEqProofs [hl, w_MOST_PLACES, h1, h2]
      · simp -implicitDefEqProofs [hl, w_MOST_PLACES, h1]
  | _ => unfold m_is_drawing d_is_drawing; simp [isDr]
theorem r_need_drawingY {D : List Int} (h : Dr D) (st : Sto) : m_need_drawing [.d (.tuple (D.map .int))] st = .ok (.d .none) st := by
  have e1 := fun st => r_is_drawingA (.tuple (D.map .int)) st
  rw [isDr_D h] at e1
  generalize PyData.tuple (D.map PyData.int) = DD at *
  unfold m_need_drawing d_need_drawing
  simp -implicitDefEqProofs [e1]
/-! ## picks -/
structure Pk (L : Stk) (n : Nat) (ps : List Nat) : Prop where
  l : ps.length = n
  b : ∀ p ∈ ps, p < L.length
  c : ∀ i, i < L.length → (ps.count i : Int) ≤ cpS L i
instance (L : Stk) (n : Nat) (ps : List Nat) : Decidable (Pk L n ps) :=
  decidable_of_iff (ps.length = n ∧ (∀ p ∈ ps, p < L.length) ∧ ∀ i, i < L.length → (ps.count i : Int) ≤ cpS L i) ⟨fun h => ⟨h.1, h.2.1, h.2.2⟩, fun h => ⟨h.l, h.b, h.c⟩⟩
def toN (d : PyData) : Nat := match d with
  | .int i => i.toNat
  | _ => 0
def isPk (L : Stk) (n : Nat) (d : PyData) : Bool := match d with
  | .tuple xs => decide (xs.length = n) && ((xs.all fun x => whB x 0 ((L.length : Int) - 1)) && (List.range L.length).all fun i => decide (((xs.map toN).count i : Int) ≤ cpS L i))
  | _ => false
theorem natL_toN (ps : List Nat) : (natL ps).map toN = ps := by
  unfold natL
  rw [List.map_map]
  exact (List.map_congr_left fun x _ => show (toN ∘ fun n : Nat => PyData.int (n : Int)) x = id x from Int.toNat_natCast x).trans (List.map_id ps)
theorem natL_of {xs : List PyData} {b : Int} (h : (xs.all fun x => whB x 0 b) = true) : xs = natL (xs.map toN) ∧ ∀ p ∈ xs.map toN, (p : Int) ≤ b := by
  obtain ⟨ns, rfl, hn⟩ := whs_map h
  refine ⟨?_, fun p hp => ?_⟩
  · unfold natL
    rw [List.map_map, List.map_map]
    refine List.map_congr_left fun x hx => ?_
    show PyData.int x = .int ((x.toNat : Nat) : Int)
    rw [Int.toNat_of_nonneg (hn x hx).1]
  · obtain ⟨d, hd, rfl⟩ := List.mem_map.mp hp
    obtain ⟨x, hx, rfl⟩ := List.mem_map.mp hd
    show ((x.toNat : Nat) : Int) ≤ b
    rw [Int.toNat_of_nonneg (hn x hx).1]
    exact (hn x hx).2
theorem isPk_iff {L : Stk} {n : Nat} {d : PyData} : isPk L n d = true ↔ ∃ ps, Pk L n ps ∧ d = pkD ps := by
  constructor
  · intro h
    unfold isPk at h
    split at h
    · rename_i xs
      rw [Bool.and_eq_true, Bool.and_eq_true, decide_eq_true_iff] at h
      obtain ⟨h1, h2, h3⟩ := h
      obtain ⟨e, hb⟩ := natL_of h2
      refine ⟨xs.map toN, ⟨by rw [List.length_map]; exact h1, fun p hp => by have := hb p hp; omega, fun i hi => ?_⟩, by unfold pkD; rw [← e]⟩
      exact of_decide_eq_true (List.all_eq_true.mp h3 i (List.mem_range.mpr hi))
    · cases h
  · rintro ⟨ps, hp, rfl⟩
    show (decide ((natL ps).length = n) && (((natL ps).all fun x => whB x 0 ((L.length : Int) - 1)) && (List.range L.length).all fun i => decide ((((natL ps).map toN).count i : Int) ≤ cpS L i))) = true
    rw [natL_toN, decide_eq_true (by unfold natL; rw [List.length_map]; exact hp.l), Bool.true_and, Bool.and_eq_true]
    refine ⟨List.all_eq_true.mpr fun x hx => ?_, List.all_eq_true.mpr fun i hi => decide_eq_true (hp.c i (List.mem_range.mp hi))⟩
    obtain ⟨p, hp', rfl⟩ := List.mem_map.mp hx
    exact whB_iff.mpr ⟨_, rfl, by omega, by have := hp.b p hp'; omega⟩
theorem isPk_pk {L : Stk} {n : Nat} {ps : List Nat} (h : Pk L n ps) : isPk L n (pkD ps) = true := isPk_iff.mpr ⟨ps, h, rfl⟩
theorem plain_natL : ∀ ps : List Nat, PyData.plainAll (natL ps) = true
  | [] => rfl
  | _ :: ps => by
    show (true && PyData.plainAll (natL ps)) = true
    rw [plain_natL ps]; rfl
theorem countP_natL (ps : List Nat) (i : Nat) : (natL ps).countP (fun y => PyData.eqv y (.int (i : Int))) = ps.count i := by
  unfold natL
  rw [List.countP_map]
  show _ = List.countP _ _
  refine List.countP_congr fun x _ => ?_
  show (PyData.eqv (.int (x : Int)) (.int (i : Int))) = true ↔ (x == i) = true
  rw [show PyData.eqv (.int (x : Int)) (.int (i : Int)) = decide ((x : Int) = (i : Int)) from rfl]
  rw [decide_eq_true_iff, beq_iff_eq]
  omega
theorem cnt_nat (ps : List Nat) (i : Nat) : cntT (.tuple (natL ps)) [.int (i : Int)] = some (.int (ps.count i : Nat)) := by
  have h2 : PyData.plain (.int (i : Int)) = true := rfl
  have h3 : min (PyData.depthAll (natL ps)) (PyData.depth (.int (i : Int))) ≤ 40 := Nat.le_trans (Nat.min_le_right _ _) (by show 0 ≤ 40; omega)
  show (if PyData.plainAll (natL ps) = true ∧ PyData.plain (.int (i : Int)) = true ∧ min (PyData.depthAll (natL ps)) (PyData.depth (.int (i : Int))) ≤ 40 then some (PyData.int (((natL ps).countP fun y => PyData.eqv y (.int (i : Int)) : Nat))) else none) = _
  rw [if_pos ⟨plain_natL ps, h2, h3⟩, countP_natL]
theorem enum_kd (L : Stk) : enumD (L.map eKd) = (List.range L.length).map fun i : Nat => PyData.tuple [.int (i : Int), eKd (L.getD i ((0, 0, 0), 0))] := by
  unfold enumD
  apply List.ext_getElem
  · simp
  · intro i h1 h2
    simp at h1
    simp [h1]
/-- the counts, looked at -/
theorem pk_counts {c : En → Sto → Rs Wv} {g : Wv → En → Option En} {env : En} {st : Sto} (L : Stk) (ps : List Nat)
    (h : ∀ i : Nat, i < L.length → ∃ env1, g (.d (.tuple [.int (i : Int), eKd (L.getD i ((0, 0, 0), 0))])) env = some env1 ∧ c env1 st = .ok (.d (.bool (decide ((ps.count i : Int) ≤ cpS L i)))) st) :
    lcL g tYs c [] env (enumD (L.map eKd)) [] st = .ok ((List.range L.length).map fun i : Nat => .bool (decide ((ps.count i : Int) ≤ cpS L i))) st := by
  have e := lcL_mapE (g := g) (c := c) (env := env) (st := st) (fun i : Nat => PyData.tuple [.int (i : Int), eKd (L.getD i ((0, 0, 0), 0))]) (fun i : Nat => PyData.bool (decide ((ps.count i : Int) ≤ cpS L i))) (List.range L.length) [] fun i hi => h i (List.mem_range.mp hi)
  rw [List.nil_append, ← enum_kd] at e
  exact e
theorem ix_kd3 (L : Stk) (i : Nat) : ixD (eKd (L.getD i ((0, 0, 0), 0))) (.int 3) = some (.int (cpS L i)) := rfl
theorem ix_kd0 (L : Stk) (i : Nat) : ixD (eKd (L.getD i ((0, 0, 0), 0))) (.int 0) = some (.int (shS L i)) := rfl
theorem ix_stk {L : Stk} {i : Nat} (h : i < L.length) : ixD (stD L) (.int (i : Int)) = some (eKd (L.getD i ((0, 0, 0), 0))) := by
  show atD (L.map eKd) (i : Int) = _
  rw [atD_nat, List.getElem?_map, List.getElem?_eq_getElem h]
  simp [h]
theorem len_stk (L : Stk) : lenF [stD L] = some (.int (L.length : Int)) := by unfold stD; simp
theorem len_dr (D : List Int) : lenF [.tuple (D.map PyData.int)] = some (.int (D.length : Int)) := by simp
end
section
variable [Tbl]
/-! ## the law's own look at picks -/
theorem r_law_wholeA (d : PyData) (a b : Int) (st : Sto) : m__law_whole [.d d, (.d (.int (a))), (.d (.int (b)))] st = .ok (.d (.bool (whB d a b))) st := by
  unfold m__law_whole d__law_whole
  cases d with
  | int i =>
    unfold whB
    by_cases h : a ≤ i
    · by_cases h2 : i ≤ b <;> simp [h, h2]
    · simp [h]
  | _ => simp [whB]
theorem r_law_is_pickA (L : Stk) (D : List Int) (d : PyData) (hL : L.length ≤ 1000000) (hD : D.length ≤ 1000000) (st : Sto) : m__law_is_pick [.d (stD L), .d (.tuple (D.map .int)), .d d] st = .ok (.d (.bool (isPk L D.length d))) st := by
  cases d with
  | tuple xs =>
    have hl : lenF [.tuple xs] = some (.int (xs.length : Int)) := by simp
    have hs := len_stk L
    have hdr := len_dr D
    have hd : isPk L D.length (.tuple xs) = (decide (xs.length = D.length) && ((xs.all fun x => whB x 0 ((L.length : Int) - 1)) && (List.range L.length).all fun i => decide (((xs.map toN).count i : Int) ≤ cpS L i))) := rfl
    by_cases hn : xs.length = D.length
    · have e1 := lcL_mapE (g := gN 6) (c := eCall m__law_whole (aCons (eVar 6) (aCons (eK (.int 0)) (aCons (eOp2 subD (eOpN lenF (aCons (eVar 0) aNil)) (eK (.int 1))) aNil)))) (env := [some (.d (stD L)), some (.d (.tuple (D.map .int))), some (.d (.tuple xs)), none, none, none, none]) (st := st) id (fun d => .bool (whB d 0 ((L.length : Int) - 1))) xs [] fun d _ => ⟨_, rfl, by
        have e := fun st => r_law_wholeA d 0 ((L.length : Int) - 1) st
        generalize stD L = SD at *
        simp -implicitDefEqProofs [hs, e]⟩
      rw [List.nil_append, List.map_id] at e1
      have al := o_all' xs fun d => whB d 0 ((L.length : Int) - 1)
      have h3 : xs.length ≤ 1000000 := by omega
      have hn2 : (xs.length : Int) = (D.length : Int) := by omega
      rw [hd, decide_eq_true hn, Bool.true_and]
      cases hk : xs.all fun x => whB x 0 ((L.length : Int) - 1) with
      | false =>
        rw [hk] at al
        rw [Bool.false_and]
        generalize stD L = SD at *
        generalize D.map PyData.int = DD at *
        unfold m__law_is_pick d__law_is_pick
        simp -implicitDefEqProofs [hl, hdr, hn2, srcW_dt, wipeE, h3, e1, al]
      | true =>
        rw [hk] at al
        obtain ⟨ex, _⟩ := natL_of hk
        generalize xs.map toN = ps at *
        subst ex
        have e2 := pk_counts (c := eOp2 leD (eMdT cntT (eVar 2) (aCons (eVar 4) aNil)) (eOp2 ixD (eVar 5) (eK (.int 3)))) (g := gTp (gCn (gN 4) (gCn (gN 5) gNl))) (env := [some (.d (stD L)), some (.d (.tuple (D.map .int))), some (.d (.tuple (natL ps))), none, none, none, none]) (st := st) L ps fun i hi => ⟨_, rfl, by
          have c := cnt_nat ps i
          have x3 := ix_kd3 L i
          generalize stD L = SD at *
          generalize natL ps = NP at *
          generalize eKd (L.getD i ((0, 0, 0), 0)) = KD at *
          generalize (ps.count i) = CC at *
          simp -implicitDefEqProofs [isTd, c, x3]⟩
        have al2 := o_all' (List.range L.length) fun i => decide ((ps.count i : Int) ≤ cpS L i)
        have h4 : (enumD (L.map eKd)).length ≤ 1000000 := by rw [enum_kd]; simpa using hL
        have en : ∀ st, enumW [.d (stD L)] st = .ok ⟨enumD (L.map eKd), []⟩ st := fun st => rfl
        rw [Bool.true_and]
        generalize ((List.range L.length).map fun i : Nat => PyData.bool (decide ((ps.count i : Int) ≤ cpS L i))) = T2 at *
        generalize ((List.range L.length).all fun i : Nat => decide ((ps.count i : Int) ≤ cpS L i)) = bb at *
        generalize enumD (L.map eKd) = EL at *
        generalize ((natL ps).map fun d => PyData.bool (whB d 0 ((L.length : Int) - 1))) = T1 at *
        generalize stD L = SD at *
        generalize D.map PyData.int = DD at *
        generalize natL ps = NP at *
        unfold m__law_is_pick d__law_is_pick
        simp -implicitDefEqProofs [hl, hdr, hn2, srcW_dt, wipeE, h3, e1, al, en, h4, e2, al2]
    · have hn2 : ¬ (xs.length : Int) = (D.length : Int) := by omega
      rw [hd, decide_eq_false hn, Bool.false_and]
      generalize stD L = SD at *
      generalize D.map PyData.int = DD at *
      unfold m__law_is_pick d__law_is_pick
      simp -implicitDefEqProofs [hl, hdr, hn2]
  | _ => unfold m__law_is_pick d__law_is_pick; simp [isPk]
theorem r_law_cost {L : Stk} {D : List Int} {p i : Nat} (hi : i < L.length) (hp : p < D.length) (st : Sto) : m__law_cost [.d (stD L), .d (.tuple (D.map .int)), (.d (.int ((p : Int)))), (.d (.int ((i : Int))))] st = .ok (.d (.int (csS L D p i))) st := by
  have x1 := ix_stk hi
  have x0 := ix_kd0 L i
  have x2 : ixD (.tuple (D.map PyData.int)) (.int (p : Int)) = some (.int (D.getD p 0)) := by
    show atD (D.map PyData.int) (p : Int) = _
    rw [atD_nat, List.getElem?_map, List.getElem?_eq_getElem hp]
    simp [hp]
  have ab : absF [.int (shS L i - D.getD p 0)] = some (.int (csS L D p i)) := rfl
  generalize eKd (L.getD i ((0, 0, 0), 0)) = KD at *
  generalize stD L = SD at *
  generalize PyData.tuple (D.map PyData.int) = DD at *
  generalize csS L D p i = CC at *
  generalize D.getD p 0 = dp at *
  unfold m__law_cost d__law_cost
  simp -implicitDefEqProofs [x1, x0, x2, ab]
end
section
variable [Wtp] [Tbl]
/-! ## lists of pairs as dicts -/
section
variable {κ α : Type} [DecidableEq κ]
def valA (L : List (κ × α)) (k : κ) : Option α := (L.find? fun p => decide (p.1 = k)).map (·.2)
def putA (L : List (κ × α)) (k : κ) (v : α) : List (κ × α) := if (valA L k).isSome = true then L.map (fun p => if p.1 = k then (p.1, v) else p) else L ++ [(k, v)]
theorem valA_cons (p : κ × α) (L : List (κ × α)) (k : κ) : valA (p :: L) k = if p.1 = k then some p.2 else valA L k := by
  unfold valA
  rw [List.find?_cons]
  by_cases h : p.1 = k
  · rw [if_pos h, decide_eq_true h]; rfl
  · rw [if_neg h, decide_eq_false h]
theorem valA_some {L : List (κ × α)} {k : κ} : (valA L k).isSome = true ↔ k ∈ L.map (·.1) := by
  induction L with
  | nil => simp [valA]
  | cons p L ih =>
    rw [valA_cons, List.map_cons, List.mem_cons]
    by_cases h : p.1 = k
    · rw [if_pos h]; simp [h]
    · rw [if_neg h, ih]
      constructor
      · exact .inr
      · rintro (q | q)
        · exact absurd q.symm h
        · exact q
theorem putA_keys (L : List (κ × α)) (k : κ) (v : α) : (putA L k v).map (·.1) = if k ∈ L.map (·.1) then L.map (·.1) else L.map (·.1) ++ [k] := by
  unfold putA
  by_cases h : (valA L k).isSome = true
  · rw [if_pos h, if_pos (valA_some.mp h), List.map_map]
    refine List.map_congr_left fun p _ => ?_
    show (if p.1 = k then (p.1, v) else p).1 = p.1
    split <;> rfl
  · rw [if_neg h, if_neg (fun z => h (valA_some.mpr z)), List.map_append]; rfl
theorem putA_nd {L : List (κ × α)} (k : κ) (v : α) (h : (L.map (·.1)).Nodup) : ((putA L k v).map (·.1)).Nodup := by
  rw [putA_keys]
  split
  · exact h
  · rename_i hk
    refine List.nodup_append.mpr ⟨h, by simp, fun a ha b hb e => hk ?_⟩
    rw [List.mem_singleton] at hb
    rw [← hb, ← e]; exact ha
theorem putA_len (L : List (κ × α)) (k : κ) (v : α) : (putA L k v).length ≤ L.length + 1 := by
  unfold putA
  split <;> simp
theorem valA_of {L : List (κ × α)} (h : (L.map (·.1)).Nodup) {p : κ × α} (hp : p ∈ L) : valA L p.1 = some p.2 := by
  induction L with
  | nil => cases hp
  | cons q L ih =>
    rw [List.map_cons, List.nodup_cons] at h
    rw [valA_cons]
    rcases List.mem_cons.mp hp with rfl | hp
    · rw [if_pos rfl]
    · have hq : p.1 ∈ L.map (·.1) := List.mem_map_of_mem hp
      rw [if_neg (fun e => h.1 (by rw [e]; exact hq)), ih h.2 hp]
end
/-! ### keys are whole numbers -/
section
variable {α : Type}
def dI (e : α → PyData) (L : List (Int × α)) : List (PyData × PyData) := L.map fun p => (.int p.1, e p.2)
theorem dI_len (e : α → PyData) (L : List (Int × α)) : (dI e L).length = L.length := List.length_map ..
theorem dI_kind (e : α → PyData) (L : List (Int × α)) : kindK (dI e L) = true := by cases L <;> rfl
theorem keyD_eq (i j : Int) : (keyD (.int i) = some (.inl j)) ↔ i = j := by
  show (some (Sum.inl i) = some (Sum.inl j)) ↔ _
  simp
theorem dI_look (e : α → PyData) (L : List (Int × α)) (k : Int) : dLook (dI e L) (.inl k) = (valA L k).map e := by
  induction L with
  | nil => rfl
  | cons p L ih =>
    unfold dLook dI at ih ⊢
    rw [List.map_cons, List.find?_cons, valA_cons]
    by_cases h : p.1 = k
    · rw [decide_eq_true ((keyD_eq _ _).mpr h), if_pos h]; rfl
    · rw [decide_eq_false (fun z => h ((keyD_eq _ _).mp z)), if_neg h]
      exact ih
theorem dI_has (e : α → PyData) (L : List (Int × α)) (k : Int) : hasKey (dI e L) (.inl k) = (valA L k).isSome := by rw [hasKey_look, dI_look, Option.isSome_map]
theorem dI_put (e : α → PyData) (L : List (Int × α)) (k : Int) (v : α) : dPut (dI e L) (.inl k) (.int k) (e v) = dI e (putA L k v) := by
  unfold dPut putA
  rw [dI_has]
  by_cases h : (valA L k).isSome = true
  · rw [if_pos h, if_pos h]
    unfold dI
    rw [List.map_map, List.map_map]
    refine List.map_congr_left fun p _ => ?_
    show (if keyD (.int p.1) = some (.inl k) then (PyData.int p.1, e v) else (.int p.1, e p.2)) = _
    by_cases q : p.1 = k
    · rw [if_pos ((keyD_eq _ _).mpr q)]; simp [q]
    · rw [if_neg (fun z => q ((keyD_eq _ _).mp z))]; simp [q]
  · rw [if_neg h, if_neg h]
    unfold dI
    rw [List.map_append]; rfl
theorem dI_set {e : α → PyData} {L : List (Int × α)} {i : Nat} {st : Sto} (h : st[i]? = some (.dct (dI e L))) (hl : L.length < 1000000) (k : Int) (v : α) : setW (.r i) (.d (.int k)) (e v) st = some (st.set i (.dct (dI e (putA L k v)))) := by
  unfold setW
  simp only [h, look_d, keyD]
  rw [if_pos (by rw [dI_len]; exact hl), dI_put]
end
/-! ### keys are tuples -/
class KeyT (κ : Type) where
  ck : κ → PyData
  ke : κ → List Key
  tk : ∀ k, tkD (ck k) = some (ke k)
  inj : ∀ a b, ke a = ke b → a = b
section
variable {κ α : Type} [DecidableEq κ] [KeyT κ]
open KeyT
def dT (e : α → PyData) (L : List (κ × α)) : List (PyData × PyData) := L.map fun p => (ck p.1, e p.2)
theorem dT_len (e : α → PyData) (L : List (κ × α)) : (dT e L).length = L.length := List.length_map ..
theorem tkD_eq (a b : κ) : (tkD (ck a) = some (ke b)) ↔ a = b := by
  rw [tk]
  exact ⟨fun h => inj _ _ (Option.some.inj h), fun h => by rw [h]⟩
theorem keyD_ck (a : κ) : keyD (ck a) = none := tkD_keyD (tk a)
theorem dT_look (e : α → PyData) (L : List (κ × α)) (k : κ) : dLookT (dT e L) (ke k) = (valA L k).map e := by
  induction L with
  | nil => rfl
  | cons p L ih =>
    unfold dLookT dT at ih ⊢
    rw [List.map_cons, List.find?_cons, valA_cons]
    by_cases h : p.1 = k
    · rw [decide_eq_true ((tkD_eq _ _).mpr h), if_pos h]; rfl
    · rw [decide_eq_false (fun z => h ((tkD_eq _ _).mp z)), if_neg h]
      exact ih
theorem dT_put (e : α → PyData) (L : List (κ × α)) (k : κ) (v : α) : dPutT (dT e L) (ke k) (ck k) (e v) = dT e (putA L k v) := by
  unfold dPutT putA
  rw [dT_look, Option.isSome_map]
  by_cases h : (valA L k).isSome = true
  · rw [if_pos h, if_pos h]
    unfold dT
    rw [List.map_map, List.map_map]
    refine List.map_congr_left fun p _ => ?_
    show (if tkD (ck p.1) = some (ke k) then (ck p.1, e v) else (ck p.1, e p.2)) = _
    by_cases q : p.1 = k
    · rw [if_pos ((tkD_eq _ _).mpr q)]; simp [q]
    · rw [if_neg (fun z => q ((tkD_eq _ _).mp z))]; simp [q]
  · rw [if_neg h, if_neg h]
    unfold dT
    rw [List.map_append]; rfl
theorem dT_ix (e : α → PyData) (L : List (κ × α)) (k : κ) : ixD (.dict (dT e L)) (ck k) = (valA L k).map e := by
  unfold ixD
  have h1 := keyD_ck k
  have h2 := tk k
  have h3 := dT_look e L k
  generalize ck k = C at *
  cases C <;> first | (simp only [h1, h2]; exact h3) | cases h1
theorem dT_setT {e : α → PyData} {L : List (κ × α)} {i : Nat} {st : Sto} (h : st[i]? = some (.dtt (dT e L))) (hl : L.length < 1000000) (k : κ) (v : α) : setWT (.r i) (ck k) (e v) st = some (st.set i (.dtt (dT e (putA L k v)))) := by
  unfold setWT
  simp only [h, tk]
  rw [if_pos (by rw [dT_len]; exact hl), dT_put]
end
end
section
variable [Tbl]
open PySem.W (Datum DatumOrd Tup T3 T4)
/-! ## stocks and drawings drawn -/
instance : KeyT Stn where
  ck := eSt
  ke s := [.inl s.1, .inl s.2.1, .inl s.2.2]
  tk _ := rfl
  inj a b h := by
    obtain ⟨a1, a2, a3⟩ := a
    obtain ⟨b1, b2, b3⟩ := b
    simpa using h
def eI1 (i : Int) : PyData := .int i
structure Dk (D : List (Stn × Int)) : Prop where
  nd : (D.map (·.1)).Nodup
  s : ∀ k ∈ D, Sto1 k.1 ∧ 1 ≤ k.2 ∧ k.2 ≤ 9
theorem putA_all {κ α : Type} [DecidableEq κ] {P : κ × α → Prop} {L : List (κ × α)} {k : κ} {v : α} (h : ∀ x ∈ L, P x) (hk : P (k, v)) : ∀ x ∈ putA L k v, P x := by
  intro x hx
  unfold putA at hx
  split at hx
  · obtain ⟨y, hy, rfl⟩ := List.mem_map.mp hx
    split
    · rename_i e; rw [e]; exact hk
    · exact h y hy
  · rcases List.mem_append.mp hx with q | q
    · exact h x q
    · rw [List.mem_singleton.mp q]; exact hk
theorem sml_map {D : List (Stn × Int)} (h : (D.map (·.1)).Nodup) : ((dT eI1 D).map fun e => smlD (dT eI1 D) e.1) = D.map eKd := by
  show ((D.map fun p => (KeyT.ck p.1, eI1 p.2)).map fun e => smlD (dT eI1 D) e.1) = _
  rw [List.map_map]
  refine List.map_congr_left fun k hk => ?_
  have ix := dT_ix eI1 D k.1
  rw [valA_of h hk] at ix
  show smlD (dT eI1 D) (eSt k.1) = eKd k
  have ix : ixD (.dict (dT eI1 D)) (eSt k.1) = some (.int k.2) := ix
  have l := dT_look eI1 D k.1
  rw [valA_of h hk] at l
  have l : dLookT (dT eI1 D) (KeyT.ke k.1) = some (.int k.2) := l
  have t : tkD (eSt k.1) = some (KeyT.ke k.1) := rfl
  unfold smlD
  rw [t]
  show (match eSt k.1, some (KeyT.ke k.1) with | .tuple ds, some k' => PyData.tuple (ds ++ [(dLookT (dT eI1 D) k').getD .none]) | _, _ => PyData.none) = _
  show PyData.tuple (_ ++ [(dLookT (dT eI1 D) (KeyT.ke k.1)).getD .none]) = _
  rw [l]; rfl
theorem sml_ok (D : List (Stn × Int)) : smlOk (dT eI1 D) = true := by
  unfold smlOk
  rw [List.all_eq_true]
  intro e he
  obtain ⟨k, _, rfl⟩ := List.mem_map.mp he
  rfl
theorem r_law_small {p : Nat} {st : Sto} (h : Pen p st) {n : Int} (hn : 0 ≤ n ∧ n ≤ 99) : ∃ (L : Stk) (st' : Sto), m__law_small [.r p, (.d (.int (n)))] st = .ok (.d (stD L)) st' ∧ Sk L ∧ (L.length : Int) ≤ n ∧ (∀ k ∈ L, k.2 ≤ 9) ∧ Pn p st st' := by
  have hp := h.lt
  obtain ⟨v1, s1, e1, a1, b1, c1⟩ := r_draw (n + 1) (h.app [.dtt []]) (by omega) (by omega)
  have l1 : s1.length = st.length + 1 := by rw [c1.len]; simp
  have g1 : s1[st.length]? = some (.dtt []) := by rw [c1.sm _ (by omega)]; exact get_mid st [] _
  have px1 : Px p st.length st s1 := (Px.app (Px.refl h) [.dtt []]).pn c1
  obtain ⟨env, st1, f1, D, rfl, px, gt, hl, hD⟩ := forL_goI (g := gN 3) (b := d__law_small_l1) (fun k env st' => ∃ D : List (Stn × Int), env = [some (.r p), some (.d (.int (n))), some (.r st.length), none, none, none, none] ∧ Px p st.length st st' ∧ st'[st.length]? = some (.dtt (dT eI1 D)) ∧ D.length ≤ k ∧ Dk D) (rangeD 0 v1.toNat) 0 (fun i x hx env st' hI => by
    obtain ⟨hi, rfl⟩ := rangeD_get hx
    rw [Nat.zero_add] at hI ⊢
    obtain ⟨D, rfl, px, gt, hl, hD⟩ := hI
    obtain ⟨w1, t1, q1, x1, y1, z1⟩ := r_draw 21 px.pen (by decide) (by decide)
    obtain ⟨w2, t2, q2, x2, y2, z2⟩ := r_draw 5 z1.pen (by decide) (by decide)
    obtain ⟨w3, t3, q3, x3, y3, z3⟩ := r_draw 2 z2.pen (by decide) (by decide)
    obtain ⟨m, hm', em⟩ := atD_mem (xs := [PyData.int w1, .int w2]) x3 (by simpa using y3)
    obtain ⟨m, rfl, m1, m2⟩ : ∃ u, m = .int u ∧ 0 ≤ u ∧ u ≤ 20 := by
      simp at hm'
      rcases hm' with rfl | rfl <;> exact ⟨_, rfl, by omega, by omega⟩
    obtain ⟨w4, t4, q4, x4, y4, z4⟩ := r_draw 4 z3.pen (by decide) (by decide)
    obtain ⟨r, hr', er⟩ := atD_mem (xs := [PyData.int 1, .int 2, .int 3, .int 9]) x4 (by simpa using y4)
    obtain ⟨r, rfl, r1, r2⟩ : ∃ u, r = .int u ∧ 0 < u ∧ u ≤ 9 := by
      simp at hr'
      rcases hr' with rfl | rfl | rfl | rfl <;> exact ⟨_, rfl, by omega, by omega⟩
    obtain ⟨w5, t5, q5, x5, y5, z5⟩ := r_draw r z4.pen r1 (by omega)
    obtain ⟨w6, t6, q6, x6, y6, z6⟩ := r_draw 3 z5.pen (by decide) (by decide)
    obtain ⟨w7, t7, q7, x7, y7, z7⟩ := r_draw 4 z6.pen (by decide) (by decide)
    have zz := (((((z1.trans z2).trans z3).trans z4).trans z5).trans z6).trans z7
    have g2 : t7[st.length]? = some (.dtt (dT eI1 D)) := by rw [zz.sm _ (by omega)]; exact gt
    have lt2 := (List.getElem?_eq_some_iff.mp g2).1
    have sw := dT_setT (e := eI1) g2 (by omega) (m, w6, 1 + w7) (1 + w5)
    refine ⟨_, _, _, rfl, ?_, putA D (m, w6, 1 + w7) (1 + w5), rfl, (px.pn zz).put (Nat.le_refl _) hp _, List.getElem?_set_self lt2, by have := putA_len D (m, w6, 1 + w7) (1 + w5); omega, putA_nd _ _ hD.nd, putA_all hD.s ⟨⟨⟨m1, m2⟩, ⟨x6, by show w6 ≤ 9; omega⟩, by show 1 ≤ 1 + w7; omega, by show 1 + w7 ≤ 20; omega⟩, by show 1 ≤ 1 + w5; omega, by show 1 + w5 ≤ 9; omega⟩⟩
    have lw2 : ∀ (a b : Int) st, lstW [(.d (.int (a))), (.d (.int (b)))] st = .ok (.d (.list [.int a, .int b])) st := fun a b st => rfl
    have lw : ∀ (a b c d : Int) st, lstW [(.d (.int (a))), (.d (.int (b))), (.d (.int (c))), (.d (.int (d)))] st = .ok (.d (.list [.int a, .int b, .int c, .int d])) st := fun a b c d st => rfl
    have sx : ∀ env, sixTW env (.d (.int (1 + w5))) (.r st.length) [.d (.int m), .d (.int w6), .d (.int (1 + w7))] t7 = .nx env (t7.set st.length (.dtt (dT eI1 (putA D (m, w6, 1 + w7) (1 + w5))))) := fun env => by
      have sw' : setWT (.r st.length) (.tuple [.int m, .int w6, .int (1 + w7)]) (.int (1 + w5)) t7 = some (t7.set st.length (.dtt (dT eI1 (putA D (m, w6, 1 + w7) (1 + w5))))) := sw
      show (match setWT (.r st.length) (.tuple [.int m, .int w6, .int (1 + w7)]) (.int (1 + w5)) t7 with | some st4 => SR.nx env st4 | none => .no) = _
      rw [sw']
    generalize dT eI1 (putA D (m, w6, 1 + w7) (1 + w5)) = R at *
    generalize dT eI1 D = R0 at *
    unfold d__law_small_l1
    simp -implicitDefEqProofs [q1, q2, q3, lw2, em, q4, lw, er, q5, q6, q7, sx]) [some (.r p), some (.d (.int (n))), some (.r st.length), none, none, none, none] s1 ⟨[], rfl, px1, g1, Nat.le_refl _, ⟨by simp, fun k hk => nomatch hk⟩⟩
  rw [rangeD_len] at hl
  have lt1 := (List.getElem?_eq_some_iff.mp gt).1
  have px3 : Px p st.length st (st1.set st.length (.lkd (dT eI1 D))) := px.put (Nat.le_refl _) hp _
  have bk := px3.back hp
  refine ⟨sortK D, (st1.set st.length (.lkd (dT eI1 D))).take st.length, ?_, ⟨sortK_ok hD.nd fun k hk => (hD.s k hk).2.1, fun k hk => (hD.s k ((sortK_perm D).mem_iff.mp hk)).1, ?_⟩, ?_, fun k hk => (hD.s k ((sortK_perm D).mem_iff.mp hk)).2.2, bk⟩
  · have sr := srt_kinds D (by omega)
    have rg := fun st => rg1_ok (i := v1) st (by omega) (by omega)
    have e1' : m__law_draw [.r p, (.d (.int (n + 1)))] (st ++ [.dtt []]) = .ok (.d (.int (v1))) s1 := e1
    have sm : eSml 6 2 [some (.r p), some (.d (.int (n))), some (.r st.length), none, none, none, none] st1 = .ok (.d (.list (D.map eKd))) (st1.set st.length (.lkd (dT eI1 D))) := by
      unfold eSml
      dsimp only [List.getElem?_cons_succ, List.getElem?_cons_zero]
      rw [gt]
      dsimp only
      rw [if_pos ⟨by have : (dT eI1 D).length = D.length := List.length_map ..; omega, sml_ok D, by simp⟩, sml_map hD.nd]
    unfold stD
    generalize (sortK D).map eKd = R at *
    generalize D.map eKd = DE at *
    generalize dT eI1 D = R0 at *
    generalize hS1 : st ++ [Ob.dtt []] = S1 at *
    generalize st1.set st.length (.lkd R0) = S3 at *
    unfold m__law_small d__law_small
    simp -implicitDefEqProofs [hS1, e1', rg, f1, sm, sr, -forL_cons]
  · rw [(sortK_perm D).length_eq]; omega
  · rw [(sortK_perm D).length_eq]; omega
theorem r_law_drawing {p : Nat} {st : Sto} (h : Pen p st) : ∃ (D : List Int) (st' : Sto), m__law_drawing [.r p] st = .ok (.d (.tuple (D.map .int))) st' ∧ Dr D ∧ Pn p st st' := by
  obtain ⟨v1, s1, e1, a1, b1, c1⟩ := r_draw 8 h (by decide) (by decide)
  obtain ⟨ys, s2, e2, l2, q2, c2⟩ := lcL_pen (p := p) (g := gN 2) (c := eOp2 ixD (eLst (aCons (eCall m__law_draw (aCons (eVar 0) (aCons (eK (.int 21)) aNil))) (aCons (eCall m__law_draw (aCons (eVar 0) (aCons (eK (.int 5)) aNil))) aNil))) (eCall m__law_draw (aCons (eVar 0) (aCons (eK (.int 2)) aNil)))) (env := [some (.r p), none, none]) (fun d => whB d 0 20 = true) (rangeD 0 (1 + v1).toNat) [] s1 c1.pen fun x _ st1 hp => by
    obtain ⟨w1, t1, q1, x1, y1, z1⟩ := r_draw 21 hp (by decide) (by decide)
    obtain ⟨w2, t2, q2, x2, y2, z2⟩ := r_draw 5 z1.pen (by decide) (by decide)
    obtain ⟨w3, t3, q3, x3, y3, z3⟩ := r_draw 2 z2.pen (by decide) (by decide)
    obtain ⟨m, hm', em⟩ := atD_mem (xs := [PyData.int w1, .int w2]) x3 (by simpa using y3)
    obtain ⟨m, rfl, m1, m2⟩ : ∃ u, m = .int u ∧ 0 ≤ u ∧ u ≤ 20 := by
      simp at hm'
      rcases hm' with rfl | rfl <;> exact ⟨_, rfl, by omega, by omega⟩
    have lw2 : ∀ (a b : Int) st, lstW [(.d (.int (a))), (.d (.int (b)))] st = .ok (.d (.list [.int a, .int b])) st := fun a b st => rfl
    exact ⟨_, .int m, t3, rfl, by simp -implicitDefEqProofs [q1, q2, q3, lw2, em], decide_eq_true ⟨m1, m2⟩, (z1.trans z2).trans z3⟩
  rw [List.nil_append] at e2
  obtain ⟨D, rfl, hb⟩ := whs_map (List.all_eq_true.mpr q2)
  rw [List.length_map] at l2
  rw [rangeD_len] at l2
  have rg := fun st => rg1_ok (i := 1 + v1) st (by omega) (by omega)
  have rl : (rangeD 0 (1 + v1).toNat).length ≤ 1000000 := by rw [rangeD_len]; omega
  have cc := c1.trans c2
  have t : s2.take st.length = s2 := by rw [← cc.len]; simp
  refine ⟨D, s2, ?_, ⟨by omega, by omega, hb⟩, cc⟩
  generalize D.map PyData.int = DD at *
  generalize rangeD 0 (1 + v1).toNat = RD at *
  unfold m__law_drawing d__law_drawing
  simp -implicitDefEqProofs [e1, rg, rl, wipeE, e2, t]
end
section
variable [Tbl]
/-! ## going by exchanges: the least distances -/
abbrev Far := Nat → Option (Int × Option (Nat × Nat))
inductive Ends (F : Far) : Nat → Nat → Prop
  | root {m : Nat} {d : Int} : F m = some (d, none) → Ends F m 0
  | step {m p o k : Nat} {d : Int} : F m = some (d, some (p, o)) → Ends F o k → Ends F m (k + 1)
theorem Ends.uniq {F : Far} {m k : Nat} (h : Ends F m k) : ∀ {k'}, Ends F m k' → k = k' := by
  induction h with
  | root e => intro k' h'; cases h' with
    | root => rfl
    | step e' => rw [e] at e'; cases e'
  | step e _ ih => intro k' h'; cases h' with
    | root e' => rw [e] at e'; cases e'
    | step e' h2 => rw [e] at e'; cases e'; rw [ih h2]
theorem Ends.some {F : Far} {m k : Nat} (h : Ends F m k) : ∃ v, F m = some v := by
  cases h with
  | root e => exact ⟨_, e⟩
  | step e _ => exact ⟨_, e⟩
section
variable {c : Nat → Nat → Int} {E : List (Nat × Nat × Nat)} {S : Nat → Prop} {K : Nat} {w : Nat → Int} {F : Far}
/-- no value grows -/
def Low (F G : Far) : Prop := ∀ m d q, F m = some (d, q) → ∃ e q', G m = some (e, q') ∧ e ≤ d
theorem Low.refl (F : Far) : Low F F := fun _ d q h => ⟨d, q, h, Int.le_refl _⟩
theorem Low.trans {F G H : Far} (a : Low F G) (b : Low G H) : Low F H := fun m d q h => by
  obtain ⟨e, q', h1, l1⟩ := a m d q h
  obtain ⟨e', q'', h2, l2⟩ := b m e q' h1
  exact ⟨e', q'', h2, Int.le_trans l2 l1⟩
end
end
section
variable [Tbl]
/-! ## after as many rounds as there are kinds nothing gets nearer -/
section
variable {c : Nat → Nat → Int} {E : List (Nat × Nat × Nat)} {S : Nat → Prop} {K : Nat} {w : Nat → Int} {F : Far}
theorem pig : ∀ (K : Nat) (l : List Nat), l.Nodup → (∀ x ∈ l, x < K) → l.length ≤ K
  | 0, [], _, _ => Nat.le_refl _
  | 0, x :: l, _, h => absurd (h x (by simp)) (Nat.not_lt_zero _)
  | K + 1, l, n, h => by
    by_cases z : K ∈ l
    · have := pig K (l.erase K) (n.erase K) fun x hx => by
        have h1 := h x (List.mem_of_mem_erase hx)
        have h2 : x ≠ K := fun e => by
          subst e
          exact (List.Nodup.not_mem_erase n) hx
        omega
      rw [List.length_erase_of_mem z] at this
      omega
    · have := pig K l n fun x hx => by
        have h1 := h x hx
        have h2 : x ≠ K := fun e => z (e ▸ hx)
        omega
      omega
end
end
section
variable [Tbl]
/-! ## picks of some places, and prices that show that they are near -/
abbrev Pks := List (Option Nat)
/-- a kind with a stone that is free -/
def Fre (cap : Nat → Int) (K : Nat) (P : Pks) (m : Nat) : Prop := m < K ∧ (P.count (some m) : Int) < cap m
instance (cap : Nat → Int) (K : Nat) (P : Pks) (m : Nat) : Decidable (Fre cap K P m) := by unfold Fre; infer_instance
section
variable {c : Nat → Nat → Int} {cap : Nat → Int} {K : Nat} {P : Pks} {w : Nat → Int}
/-! ## one place more, others moved -/
theorem count_set' (b : Option Nat) : ∀ (l : Pks) (i : Nat) (h : i < l.length) (a : Option Nat), (l.set i a).count b + (if l[i] = b then 1 else 0) = l.count b + (if a = b then 1 else 0)
  | x :: l, 0, _, a => by
    show (a :: l).count b + _ = _
    rw [List.count_cons, List.count_cons]
    simp only [beq_iff_eq, List.getElem_cons_zero]
    split <;> split <;> omega
  | x :: l, i + 1, h, a => by
    have := count_set' b l i (by simpa using h) a
    show (x :: l.set i a).count b + _ = _
    rw [List.count_cons, List.count_cons]
    simp only [List.getElem_cons_succ]
    omega
end
end
section
variable [Tbl]
/-! ## papers: a pick, prices and worths that show that none is nearer -/
def smI (n : Nat) (f : Nat → Int) : Int := ((List.range n).map f).sum
theorem smI_succ (n : Nat) (f : Nat → Int) : smI (n + 1) f = smI n f + f n := by
  unfold smI
  rw [List.range_succ, List.map_append, List.sum_append]
  simp
theorem smI_le {n : Nat} {f g : Nat → Int} (h : ∀ i, i < n → f i ≤ g i) : smI n f ≤ smI n g := by
  induction n with
  | zero => exact Int.le_refl _
  | succ n ih =>
    rw [smI_succ, smI_succ]
    have := ih fun i hi => h i (by omega)
    have := h n (by omega)
    omega
theorem smI_congr {n : Nat} {f g : Nat → Int} (h : ∀ i, i < n → f i = g i) : smI n f = smI n g := by
  induction n with
  | zero => rfl
  | succ n ih => rw [smI_succ, smI_succ, ih fun i hi => h i (by omega), h n (by omega)]
theorem smI_add (n : Nat) (f g : Nat → Int) : smI n (fun i => f i + g i) = smI n f + smI n g := by
  induction n with
  | zero => rfl
  | succ n ih => rw [smI_succ, smI_succ, smI_succ, ih]; omega
theorem smI_one (n j : Nat) (h : j < n) (x : Int) : smI n (fun i => if i = j then x else 0) = x := by
  induction n with
  | zero => omega
  | succ n ih =>
    rw [smI_succ]
    by_cases z : j = n
    · subst z
      rw [if_pos rfl]
      have : smI j (fun i => if i = j then x else 0) = smI j (fun _ => 0) := smI_congr fun i hi => if_neg (by omega)
      have z0 : ∀ n, smI n (fun _ => 0) = 0 := fun n => by
        induction n with
        | zero => rfl
        | succ n ih => rw [smI_succ, ih]; rfl
      rw [this, z0]; omega
    · rw [ih (by omega), if_neg (by omega)]; omega
theorem smI_nn {n : Nat} {f : Nat → Int} (h : ∀ i, i < n → 0 ≤ f i) : 0 ≤ smI n f := by
  induction n with
  | zero => exact Int.le_refl _
  | succ n ih =>
    rw [smI_succ]
    have := ih fun i hi => h i (by omega)
    have := h n (by omega)
    omega
/-- sums over places, by kinds -/
theorem sum_by (w : Nat → Int) (K : Nat) : ∀ (ps : List Nat), (∀ p ∈ ps, p < K) → (ps.map w).sum = smI K fun i => w i * (ps.count i : Nat)
  | [], _ => by
    have : smI K (fun i => w i * (([] : List Nat).count i : Nat)) = smI K fun _ => 0 := smI_congr fun i _ => by simp
    have z0 : ∀ n, smI n (fun _ => 0) = 0 := fun n => by
      induction n with
      | zero => rfl
      | succ n ih => rw [smI_succ, ih]; rfl
    rw [this, z0]; rfl
  | p :: ps, h => by
    have ih := sum_by w K ps fun q hq => h q (by simp [hq])
    have e : smI K (fun i => w i * ((p :: ps).count i : Nat)) = smI K (fun i => w i * (ps.count i : Nat) + if i = p then w p else 0) := smI_congr fun i _ => by
      rw [List.count_cons]
      by_cases z : p = i
      · subst z; simp [Int.mul_add]
      · have z' : ¬ i = p := fun e => z e.symm
        simp [z, z']
    rw [e, smI_add, smI_one K p (h p (by simp)), List.map_cons, List.sum_cons, ih]
    omega
structure Pck (cap : Nat → Int) (K n : Nat) (ps : List Nat) : Prop where
  l : ps.length = n
  b : ∀ p ∈ ps, p < K
  c : ∀ i, i < K → (ps.count i : Int) ≤ cap i
section
variable {c : Nat → Nat → Int} {cap : Nat → Int} {K n : Nat} {x : Int} {ps : List Nat} {w u : Nat → Int}
theorem getD_mem {p : Nat} (h : p < ps.length) : ps.getD p 0 ∈ ps := by
  rw [List.getD_eq_getElem?_getD, List.getElem?_eq_getElem h]
  exact List.getElem_mem h
/-! ## prices where all stones are picked -/
end
end
section
variable [Tbl]
/-! ## costs, picks of some places as data -/
theorem r_cost_of {L : Stk} {D : List Int} {p i : Nat} (hi : i < L.length) (hp : p < D.length) (st : Sto) : m_cost_of [.d (stD L), .d (.tuple (D.map .int)), (.d (.int ((p : Int)))), (.d (.int ((i : Int))))] st = .ok (.d (.int (csS L D p i))) st := by
  have x1 := ix_stk hi
  have x0 := ix_kd0 L i
  have x2 : ixD (.tuple (D.map PyData.int)) (.int (p : Int)) = some (.int (D.getD p 0)) := by
    show atD (D.map PyData.int) (p : Int) = _
    rw [atD_nat, List.getElem?_map, List.getElem?_eq_getElem hp]
    simp [hp]
  have ab : absF [.int (shS L i - D.getD p 0)] = some (.int (csS L D p i)) := rfl
  generalize eKd (L.getD i ((0, 0, 0), 0)) = KD at *
  generalize stD L = SD at *
  generalize PyData.tuple (D.map PyData.int) = DD at *
  generalize csS L D p i = CC at *
  generalize D.getD p 0 = dp at *
  unfold m_cost_of d_cost_of
  simp -implicitDefEqProofs [x1, x0, x2, ab]
def encO : Option Nat → PyData
  | none => .none
  | some n => .int (n : Int)
def pksL (P : Pks) : List PyData := P.map encO
theorem plain_pks : ∀ P : Pks, PyData.plainAll (pksL P) = true
  | [] => rfl
  | none :: P => by
    show (true && PyData.plainAll (pksL P)) = true
    rw [plain_pks P]; rfl
  | some _ :: P => by
    show (true && PyData.plainAll (pksL P)) = true
    rw [plain_pks P]; rfl
theorem cnt_pks (P : Pks) (i : Nat) : cntD (.list (pksL P)) [.int (i : Int)] = some (.int (P.count (some i) : Nat)) := by
  have h2 : PyData.plain (.int (i : Int)) = true := rfl
  have h3 : min (PyData.depthAll (pksL P)) (PyData.depth (.int (i : Int))) ≤ 40 := Nat.le_trans (Nat.min_le_right _ _) (by show 0 ≤ 40; omega)
  show (if PyData.plainAll (pksL P) = true ∧ PyData.plain (.int (i : Int)) = true ∧ min (PyData.depthAll (pksL P)) (PyData.depth (.int (i : Int))) ≤ 40 then some (PyData.int (((pksL P).countP fun y => PyData.eqv y (.int (i : Int)) : Nat))) else none) = _
  rw [if_pos ⟨plain_pks P, h2, h3⟩]
  congr 3
  unfold pksL
  rw [List.countP_map]
  show _ = List.countP _ _
  refine List.countP_congr fun x _ => ?_
  rcases x with _ | x
  · show (PyData.eqv .none (.int (i : Int))) = true ↔ ((none : Option Nat) == some i) = true
    exact ⟨fun h => (nomatch h), fun h => nomatch h⟩
  · show (PyData.eqv (.int (x : Int)) (.int (i : Int))) = true ↔ (some x == some i) = true
    rw [show PyData.eqv (.int (x : Int)) (.int (i : Int)) = decide ((x : Int) = (i : Int)) from rfl]
    rw [decide_eq_true_iff, beq_iff_eq, Option.some.injEq]
    omega
theorem rangeD0 (n : Nat) : rangeD 0 n = (List.range n).map fun i : Nat => .int (i : Int) := by
  unfold rangeD
  exact List.map_congr_left fun i _ => by congr 1; omega
end
section
variable [Tbl]
/-! ## sums of a stock's numbers -/
def capS (L : Stk) : Int := (L.map (·.2)).sum
theorem cap_sm (L : Stk) : smI L.length (cpS L) = capS L := by
  unfold smI capS
  congr 1
  apply List.ext_getElem
  · simp
  · intro i h1 h2
    simp at h1
    simp [h1, cpS]
theorem cap_l (L : Stk) (j : Nat) (env : En) (st : Sto) (h : ∀ x, ∃ env1, gN j (.d x) env = some env1 ∧ eVar j env1 st = .ok (.d x) st) : lcL (gN j) tYs (eOp2 ixD (eVar j) (eK (.int 3))) [] env (L.map eKd) [] st = .ok ((L.map (·.2)).map .int) st := by
  have e := lcL_mapE (g := gN j) (c := eOp2 ixD (eVar j) (eK (.int 3))) (env := env) (st := st) eKd (fun k => .int k.2) L [] fun k _ => by
    obtain ⟨env1, a, b⟩ := h (eKd k)
    have x3 : ixD (eKd k) (.int 3) = some (.int k.2) := rfl
    exact ⟨env1, a, by rw [x_op2, b]; simp -implicitDefEqProofs [x3]⟩
  rw [List.nil_append] at e
  rw [e, List.map_map]; rfl
theorem cp_ge {L : Stk} (h : SOk L) {i : Nat} (hi : i < L.length) : 1 ≤ cpS L i := by
  unfold cpS
  rw [List.getD_eq_getElem?_getD, List.getElem?_eq_getElem hi]
  exact h.b _ (List.getElem_mem hi)
theorem take_set_ge {n i : Nat} {st : Sto} {o : Ob} (h : n ≤ i) : (st.set i o).take n = st.take n := by
  apply List.ext_getElem?
  intro j
  by_cases z : j < n
  · rw [List.getElem?_take_of_lt z, List.getElem?_take_of_lt z, List.getElem?_set_ne (by omega)]
  · rw [List.getElem?_eq_none (by rw [List.length_take]; omega), List.getElem?_eq_none (by rw [List.length_take]; omega)]
end
section
variable [Tbl]
/-! ## places get kinds, others moved; where that fails, too few are near -/
def othP (P : Pks) (n : Nat) : List Nat := (List.range P.length).filter fun p => decide (P.getD p none = some n)
def mrO (rec : Pks → Nat → List Nat → Bool × Pks × List Nat) : List Nat → Pks → List Nat → Bool × Pks × List Nat
  | [], P, s => (false, P, s)
  | o :: os, P, s => match rec P o s with
    | (true, P', s') => (true, P', s')
    | (false, P', s') => mrO rec os P' s'
def mrK (rec : Pks → Nat → List Nat → Bool × Pks × List Nat) (cap : Nat → Int) (a : Nat) : List Nat → Pks → List Nat → Bool × Pks × List Nat
  | [], P, s => (false, P, s)
  | n :: ns, P, s => if n ∈ s then mrK rec cap a ns P s else if (P.count (some n) : Int) < cap n then (true, P.set a (some n), s ++ [n]) else
    match mrO rec (othP P n) P (s ++ [n]) with
    | (true, P', s') => (true, P'.set a (some n), s')
    | (false, P', s') => mrK rec cap a ns P' s'
def mr (near : Nat → List Nat) (cap : Nat → Int) : Nat → Pks → Nat → List Nat → Bool × Pks × List Nat
  | 0, P, _, s => (false, P, s)
  | f + 1, P, a, s => mrK (mr near cap f) cap a (near a) P s
theorem mem_oth {P : Pks} {n p : Nat} : p ∈ othP P n ↔ P[p]? = some (some n) := by
  unfold othP
  rw [List.mem_filter, List.mem_range, decide_eq_true_iff, List.getD_eq_getElem?_getD]
  constructor
  · rintro ⟨h, e⟩
    rw [List.getElem?_eq_getElem h] at e ⊢
    exact congrArg some e
  · intro h
    exact ⟨(List.getElem?_eq_some_iff.mp h).1, by rw [h]; rfl⟩
theorem ndl_le : ∀ (s' s : List Nat), s.Nodup → (∀ x ∈ s, x ∈ s') → s.length ≤ s'.length
  | _, [], _, _ => Nat.zero_le _
  | s', x :: s, nd, h => by
    have hx := h x (by simp)
    rw [List.nodup_cons] at nd
    have := ndl_le (s'.erase x) s nd.2 fun y hy => (List.mem_erase_of_ne (fun e => nd.1 (by rw [← e]; exact hy))).mpr (h y (by simp [hy]))
    rw [List.length_erase_of_mem hx] at this
    have : 0 < s'.length := List.length_pos_of_mem hx
    rw [List.length_cons]
    omega
/-- what was seen, without success -/
structure Fl (near : Nat → List Nat) (cap : Nat → Int) (K : Nat) (P : Pks) (s s' : List Nat) : Prop where
  nd : s'.Nodup
  b : ∀ x ∈ s', x < K
  up : ∀ x ∈ s, x ∈ s'
  cl : ∀ n ∈ s', n ∉ s → cap n ≤ (P.count (some n) : Nat) ∧ ∀ o : Nat, P[o]? = some (some n) → ∀ m ∈ near o, m ∈ s'
structure Su (near : Nat → List Nat) (cap : Nat → Int) (K : Nat) (P : Pks) (a : Nat) (s : List Nat) (P' : Pks) : Prop where
  l : P'.length = P.length
  c : ∃ f, f < K ∧ (P.count (some f) : Int) < cap f ∧ ∀ i, P'.count (some i) + (if P[a]? = some (some i) then 1 else 0) = P.count (some i) + (if f = i then 1 else 0)
  nr : ∀ p m : Nat, P'[p]? = some (some m) → P[p]? = some (some m) ∨ m ∈ near p
  keep : ∀ p m : Nat, P[p]? = some (some m) → m ∈ s → p ≠ a → P'[p]? = some (some m)
  no : ∀ p : Nat, P[p]? = some none → p ≠ a → P'[p]? = some none
  so : ∀ p : Nat, P'[p]? = some none → P[p]? = some none ∧ p ≠ a
structure Pre (K : Nat) (P : Pks) (a : Nat) (s : List Nat) : Prop where
  al : a < P.length
  nd : s.Nodup
  b : ∀ x ∈ s, x < K
  at' : P[a]? = some none ∨ ∃ m ∈ s, P[a]? = some (some m)
section
variable {near : Nat → List Nat} {cap : Nat → Int} {K : Nat}
theorem Fl.refl {P : Pks} {s : List Nat} (nd : s.Nodup) (b : ∀ x ∈ s, x < K) : Fl near cap K P s s := ⟨nd, b, fun _ h => h, fun _ h h' => absurd h h'⟩
theorem Fl.trans {P : Pks} {s s' s'' : List Nat} (h : Fl near cap K P s s') (h' : Fl near cap K P s' s'') : Fl near cap K P s s'' := ⟨h'.nd, h'.b, fun x hx => h'.up x (h.up x hx), fun n hn hs => by
  by_cases z : n ∈ s'
  · obtain ⟨c1, c2⟩ := h.cl n z hs
    exact ⟨c1, fun o ho m hm => h'.up m (c2 o ho m hm)⟩
  · exact h'.cl n hn z⟩
/-- what a call is to keep -/
def Good (near : Nat → List Nat) (cap : Nat → Int) (K : Nat) (P : Pks) (a : Nat) (s : List Nat) (r : Bool × Pks × List Nat) : Prop :=
  (r.1 = false ∧ r.2.1 = P ∧ Fl near cap K P s r.2.2 ∧ ∀ m ∈ near a, m ∈ r.2.2) ∨ (r.1 = true ∧ Su near cap K P a s r.2.1)
theorem mrO_ok {rec : Pks → Nat → List Nat → Bool × Pks × List Nat} {f n : Nat} (hr : ∀ P a s, K < f + s.length → Pre K P a s → Good near cap K P a s (rec P a s)) : ∀ (os : List Nat) (P : Pks) (s : List Nat), n ∈ s → K < f + s.length → s.Nodup → (∀ x ∈ s, x < K) → (∀ o ∈ os, P[o]? = some (some n)) →
    ((mrO rec os P s).1 = false ∧ (mrO rec os P s).2.1 = P ∧ Fl near cap K P s (mrO rec os P s).2.2 ∧ ∀ o ∈ os, ∀ m ∈ near o, m ∈ (mrO rec os P s).2.2) ∨ ((mrO rec os P s).1 = true ∧ ∃ o ∈ os, ∃ s1, (∀ x ∈ s, x ∈ s1) ∧ Su near cap K P o s1 (mrO rec os P s).2.1)
  | [], P, s, _, _, nd, b, _ => .inl ⟨rfl, rfl, .refl nd b, fun o ho => absurd ho List.not_mem_nil⟩
  | o :: os, P, s, hn, hf, nd, b, ho => by
    have hp := ho o (by simp)
    have g := hr P o s hf ⟨(List.getElem?_eq_some_iff.mp hp).1, nd, b, .inr ⟨n, hn, hp⟩⟩
    unfold mrO
    rcases e : rec P o s with ⟨_ | _, P', s'⟩
    · rw [e] at g
      rcases g with ⟨_, g2, g3, g4⟩ | ⟨g1, _⟩
      rotate_left
      · cases g1
      dsimp only at g2 g3 g4 ⊢
      subst g2
      have hl : s.length ≤ s'.length := by
        refine Classical.byContradiction fun z => ?_
        have := ndl_le s' s nd g3.up
        omega
      rcases mrO_ok hr os P' s' (g3.up n hn) (by omega) g3.nd g3.b (fun x hx => ho x (by simp [hx])) with ⟨a1, a2, a3, a4⟩ | ⟨a1, o', ho', s1, hs1, hsu⟩
      · refine .inl ⟨a1, a2, g3.trans a3, fun x hx m hm => ?_⟩
        rcases List.mem_cons.mp hx with rfl | hx
        · exact a3.up m (g4 m hm)
        · exact a4 x hx m hm
      · exact .inr ⟨a1, o', by simp [ho'], s1, fun x hx => hs1 x (g3.up x hx), hsu⟩
    · rw [e] at g
      rcases g with ⟨g1, _⟩ | ⟨_, g2⟩
      · cases g1
      · exact .inr ⟨rfl, o, by simp, s, fun _ h => h, g2⟩
theorem mrK_ok {rec : Pks → Nat → List Nat → Bool × Pks × List Nat} {f a : Nat} (hr : ∀ P a s, K < f + s.length → Pre K P a s → Good near cap K P a s (rec P a s)) (hnK : ∀ m ∈ near a, m < K) : ∀ (ns : List Nat) (P : Pks) (s : List Nat), (∀ m ∈ ns, m ∈ near a) → K < f + 1 + s.length → Pre K P a s →
    ((mrK rec cap a ns P s).1 = false ∧ (mrK rec cap a ns P s).2.1 = P ∧ Fl near cap K P s (mrK rec cap a ns P s).2.2 ∧ ∀ m ∈ ns, m ∈ (mrK rec cap a ns P s).2.2) ∨ ((mrK rec cap a ns P s).1 = true ∧ Su near cap K P a s (mrK rec cap a ns P s).2.1)
  | [], P, s, _, _, hp => .inl ⟨rfl, rfl, .refl hp.nd hp.b, fun o ho => absurd ho List.not_mem_nil⟩
  | n :: ns, P, s, hns, hf, hp => by
    unfold mrK
    by_cases z : n ∈ s
    · rw [if_pos z]
      rcases mrK_ok hr hnK ns P s (fun m hm => hns m (by simp [hm])) hf hp with ⟨a1, a2, a3, a4⟩ | h
      · refine .inl ⟨a1, a2, a3, fun m hm => ?_⟩
        rcases List.mem_cons.mp hm with rfl | hm
        · exact a3.up _ z
        · exact a4 m hm
      · exact .inr h
    · rw [if_neg z]
      have hn := hns n (by simp)
      have hnk := hnK n hn
      have nd1 : (s ++ [n]).Nodup := List.nodup_append.mpr ⟨hp.nd, by simp, fun x hx y hy e => by rw [List.mem_singleton] at hy; subst hy; exact z (e ▸ hx)⟩
      have b1 : ∀ x ∈ s ++ [n], x < K := fun x hx => by
        rcases List.mem_append.mp hx with hx | hx
        · exact hp.b x hx
        · rw [List.mem_singleton] at hx; rw [hx]; exact hnk
      by_cases y : (P.count (some n) : Int) < cap n
      · rw [if_pos y]
        refine .inr ⟨rfl, ?_⟩
        dsimp only
        have gs : ∀ p : Nat, p ≠ a → (P.set a (some n))[p]? = P[p]? := fun p hp => List.getElem?_set_ne (Ne.symm hp)
        refine ⟨List.length_set, ⟨n, hnk, y, fun i => ?_⟩, fun p m hm => ?_, fun p m hm _ hpa => by rw [gs p hpa]; exact hm, fun p hm hpa => by rw [gs p hpa]; exact hm, fun p hm => ?_⟩
        · have hal := hp.al
          have h1 := count_set' (some i) P a hp.al (some n)
          have h2 : P[a]? = some P[a] := List.getElem?_eq_getElem hp.al
          rw [h2]
          simp only [Option.some.injEq] at h1 ⊢
          exact h1
        · by_cases q : p = a
          · subst q
            rw [List.getElem?_set_self hp.al] at hm
            cases hm
            exact .inr hn
          · rw [gs p q] at hm
            exact .inl hm
        · by_cases q : p = a
          · subst q
            rw [List.getElem?_set_self hp.al] at hm
            cases hm
          · rw [gs p q] at hm
            exact ⟨hm, q⟩
      · rw [if_neg y]
        have ol := mrO_ok (n := n) hr (othP P n) P (s ++ [n]) (by simp) (by rw [List.length_append, List.length_singleton]; omega) nd1 b1 fun o ho => mem_oth.mp ho
        rcases e : mrO rec (othP P n) P (s ++ [n]) with ⟨_ | _, P', s'⟩
        · rw [e] at ol
          rcases ol with ⟨_, g2, g3, g4⟩ | ⟨g1, _⟩
          rotate_left
          · cases g1
          dsimp only at g2 g3 g4 ⊢
          subst g2
          have fl : Fl near cap K P' s s' := ⟨g3.nd, g3.b, fun x hx => g3.up x (by simp [hx]), fun m hm hms => by
            by_cases q : m = n
            · subst q
              exact ⟨by omega, fun o ho => g4 o (mem_oth.mpr ho)⟩
            · exact g3.cl m hm (by simp [hms, q])⟩
          have hl : s.length ≤ s'.length := by
            refine Classical.byContradiction fun w => ?_
            have := ndl_le s' s hp.nd fl.up
            omega
          have hp' : Pre K P' a s' := ⟨hp.al, g3.nd, g3.b, by
            rcases hp.at' with h | ⟨m, hm, h⟩
            · exact .inl h
            · exact .inr ⟨m, fl.up m hm, h⟩⟩
          rcases mrK_ok hr hnK ns P' s' (fun m hm => hns m (by simp [hm])) (by omega) hp' with ⟨a1, a2, a3, a4⟩ | ⟨a1, a2⟩
          · refine .inl ⟨a1, a2, fl.trans a3, fun m hm => ?_⟩
            rcases List.mem_cons.mp hm with rfl | hm
            · exact a3.up _ (g3.up _ (by simp))
            · exact a4 m hm
          · exact .inr ⟨a1, a2.l, a2.c, a2.nr, fun p m h1 h2 h3 => a2.keep p m h1 (fl.up m h2) h3, a2.no, a2.so⟩
        · rw [e] at ol
          rcases ol with ⟨g1, _⟩ | ⟨_, o, ho, s1, hs1, su⟩
          · cases g1
          refine .inr ⟨rfl, ?_⟩
          dsimp only at su ⊢
          have hpo := mem_oth.mp ho
          have ao : a ≠ o := fun q => by
            subst q
            rcases hp.at' with h | ⟨m, hm, h⟩
            · rw [h] at hpo; cases hpo
            · rw [h] at hpo; cases hpo; exact z hm
          have ha : P'[a]? = P[a]? := by
            rcases hp.at' with h | ⟨m, hm, h⟩
            · rw [h]; exact su.no a h ao
            · rw [h]; exact su.keep a m h (hs1 m (by simp [hm])) ao
          have al' : a < P'.length := by rw [su.l]; exact hp.al
          have gs : ∀ p : Nat, p ≠ a → (P'.set a (some n))[p]? = P'[p]? := fun p hp => List.getElem?_set_ne (Ne.symm hp)
          obtain ⟨fr, hfK, hfc, hc⟩ := su.c
          refine ⟨by rw [List.length_set, su.l], ⟨fr, hfK, hfc, fun i => ?_⟩, fun p m hm => ?_, fun p m h1 h2 h3 => ?_, fun p h1 h3 => ?_, fun p hm => ?_⟩
          · have h1 := count_set' (some i) P' a al' (some n)
            have h2 : P'[a]? = some P'[a] := List.getElem?_eq_getElem al'
            have h3 := hc i
            rw [hpo] at h3
            rw [← ha, h2]
            simp only [Option.some.injEq] at h1 h3 ⊢
            omega
          · by_cases q : p = a
            · subst q
              rw [List.getElem?_set_self al'] at hm
              cases hm
              exact .inr hn
            · rw [gs p q] at hm
              exact su.nr p m hm
          · rw [gs p h3]
            refine su.keep p m h1 (hs1 m (by simp [h2])) fun q => ?_
            subst q
            rw [hpo] at h1
            cases h1
            exact z h2
          · rw [gs p h3]
            refine su.no p h1 fun q => ?_
            subst q
            rw [hpo] at h1
            cases h1
          · by_cases q : p = a
            · subst q
              rw [List.getElem?_set_self al'] at hm
              cases hm
            · rw [gs p q] at hm
              exact ⟨(su.so p hm).1, q⟩
theorem mr_ok (hnK : ∀ a, ∀ m ∈ near a, m < K) : ∀ (f : Nat) (P : Pks) (a : Nat) (s : List Nat), K < f + s.length → Pre K P a s → Good near cap K P a s (mr near cap f P a s)
  | 0, P, a, s, hf, hp => by
    have := pig K s hp.nd hp.b
    omega
  | f + 1, P, a, s, hf, hp => mrK_ok (mr_ok hnK f) (hnK a) (near a) P s (fun _ h => h) hf hp
end
end
section
variable [Tbl]
/-! ## picks within a miss, or places that have too few near to them -/
def anyN (near : Nat → List Nat) (A : List Nat) (i : Nat) : Bool := A.any fun p => decide (i ∈ near p)
/-- how many stones are near to some places -/
def nrS (near : Nat → List Nat) (cap : Nat → Int) (K : Nat) (A : List Nat) : Int := smI K fun i => if anyN near A i = true then cap i else 0
def fewB (near : Nat → List Nat) (cap : Nat → Int) (K : Nat) (A : List Nat) : Bool := decide (nrS near cap K A < A.length)
def inS (s : List Nat) : Option Nat → Bool
  | some m => decide (m ∈ s)
  | none => false
theorem inS_some (s : List Nat) (m : Nat) : inS s (some m) = decide (m ∈ s) := rfl
theorem inS_none (s : List Nat) : inS s none = false := rfl
theorem smI_zero' : ∀ n, smI n (fun _ => 0) = 0
  | 0 => rfl
  | n + 1 => by rw [smI_succ, smI_zero' n]; rfl
theorem count_by (s : List Nat) (K : Nat) (hK : ∀ x ∈ s, x < K) : ∀ (P : Pks), ((P.countP (inS s) : Nat) : Int) = smI K fun i => if i ∈ s then ((P.count (some i) : Nat) : Int) else 0
  | [] => by
    have : (fun i => if i ∈ s then ((([] : Pks).count (some i) : Nat) : Int) else 0) = fun _ => 0 := funext fun i => by simp
    rw [this, smI_zero']; rfl
  | x :: P => by
    have ih := count_by s K hK P
    rcases x with _ | m
    · rw [List.countP_cons, if_neg (by rw [inS_none]; exact Bool.false_ne_true)]
      have : (fun i => if i ∈ s then ((((none : Option Nat) :: P).count (some i) : Nat) : Int) else 0) = fun i => if i ∈ s then ((P.count (some i) : Nat) : Int) else 0 := funext fun i => by rw [List.count_cons]; simp
      rw [this, ← ih]; rfl
    · rw [List.countP_cons]
      by_cases z : m ∈ s
      · rw [if_pos (by rw [inS_some]; exact decide_eq_true z)]
        have : (fun i => if i ∈ s then (((some m :: P).count (some i) : Nat) : Int) else 0) = fun i => (if i ∈ s then ((P.count (some i) : Nat) : Int) else 0) + if i = m then 1 else 0 := funext fun i => by
          rw [List.count_cons]
          by_cases q : i = m
          · subst q; simp [z]
          · have q' : ¬ m = i := fun e => q e.symm
            simp [q, q']
        rw [this, smI_add, smI_one K m (hK m z), ← ih]
        omega
      · rw [if_neg (by rw [inS_some, decide_eq_true_iff]; exact z)]
        have : (fun i => if i ∈ s then (((some m :: P).count (some i) : Nat) : Int) else 0) = fun i => if i ∈ s then ((P.count (some i) : Nat) : Int) else 0 := funext fun i => by
          rw [List.count_cons]
          by_cases q : i ∈ s
          · have : ¬ m = i := fun e => z (e ▸ q)
            simp [q, this]
          · simp [q]
        rw [this, ← ih]; rfl
theorem countP_ix (q : Option Nat → Bool) (P : Pks) : ((List.range P.length).filter fun p => q (P.getD p none)).length = P.countP q := by
  induction P with
  | nil => rfl
  | cons x P ih =>
    rw [List.length_cons, List.range_succ_eq_map, List.filter_cons, List.countP_cons, ← ih]
    have e : ((List.map Nat.succ (List.range P.length)).filter fun p => q ((x :: P).getD p none)).length = ((List.range P.length).filter fun p => q (P.getD p none)).length := by
      rw [List.filter_map, List.length_map]; rfl
    split
    · rename_i h
      have h : q x = true := h
      rw [List.length_cons, e, if_pos h]
    · rename_i h
      have h : ¬ q x = true := h
      rw [e, if_neg h]; rfl
section
variable {near : Nat → List Nat} {cap : Nat → Int} {K : Nat}
/-- where a place gets none, some places have too few near -/
theorem fail_few {P : Pks} {a : Nat} {s' : List Nat} (hc0 : ∀ i, i < K → 0 ≤ cap i) (hPa : P[a]? = some none) (fl : Fl near cap K P [] s') (hn : ∀ m ∈ near a, m ∈ s') : ∃ A : List Nat, A.Sublist (List.range P.length) ∧ fewB near cap K A = true := by
  have hal := (List.getElem?_eq_some_iff.mp hPa).1
  have ga : P.getD a none = none := by rw [List.getD_eq_getElem?_getD, hPa]; rfl
  refine ⟨(List.range P.length).filter fun p => decide (p = a) || (inS s' (P.getD p none)), List.filter_sublist, decide_eq_true ?_⟩
  -- how many they are
  have hl : ∀ R : List Nat, R.Nodup → ((R.filter fun p => decide (p = a) || (inS s' (P.getD p none))).length : Nat) = (R.filter fun p => (inS s' (P.getD p none))).length + (if a ∈ R then 1 else 0) := fun R => by
    induction R with
    | nil => intro _; rfl
    | cons x R ih =>
      intro nd
      rw [List.nodup_cons] at nd
      have ih := ih nd.2
      rw [List.filter_cons, List.filter_cons]
      by_cases z : x = a
      · subst z
        rw [ga, inS_none]
        rw [if_neg nd.1] at ih
        rw [decide_eq_true rfl, Bool.true_or, if_pos rfl, if_neg Bool.false_ne_true, List.length_cons, ih, if_pos (by simp)]
      · have e : (decide (x = a) || (inS s' (P.getD x none))) = (inS s' (P.getD x none)) := by rw [decide_eq_false z, Bool.false_or]
        rw [e]
        have em : (a ∈ x :: R) ↔ a ∈ R := by
          rw [List.mem_cons]
          exact ⟨fun h => h.elim (fun e => absurd e.symm z) id, .inr⟩
        split
        · rw [List.length_cons, List.length_cons, ih]
          by_cases y : a ∈ R
          · rw [if_pos y, if_pos (em.mpr y)]
            try omega
          · rw [if_neg y, if_neg fun h => y (em.mp h)]
        · rw [ih]
          by_cases y : a ∈ R
          · rw [if_pos y, if_pos (em.mpr y)]
          · rw [if_neg y, if_neg fun h => y (em.mp h)]
  have h1 := hl (List.range P.length) List.nodup_range
  rw [if_pos (List.mem_range.mpr hal)] at h1
  have h2 := countP_ix (inS s') P
  have h3 := count_by s' K fl.b P
  rw [h1]
  -- what is near to them
  have h4 : nrS near cap K ((List.range P.length).filter fun p => decide (p = a) || (inS s' (P.getD p none))) ≤ smI K fun i => if i ∈ s' then ((P.count (some i) : Nat) : Int) else 0 := by
    refine smI_le fun i hi => ?_
    by_cases z : i ∈ s'
    · rw [if_pos z]
      have := (fl.cl i z List.not_mem_nil).1
      have := hc0 i hi
      split <;> omega
    · rw [if_neg z, if_neg]
      · exact Int.le_refl _
      · intro h
        obtain ⟨p, hp, hm⟩ := List.any_eq_true.mp h
        rw [List.mem_filter] at hp
        have hm := of_decide_eq_true hm
        apply z
        rcases Bool.or_eq_true _ _ |>.mp hp.2 with q | q
        · have q := of_decide_eq_true q
          subst q
          exact hn i hm
        · rcases e : P.getD p none with _ | m
          · rw [e, inS_none] at q; cases q
          · rw [e, inS_some] at q
            have q := of_decide_eq_true q
            refine (fl.cl m q List.not_mem_nil).2 p ?_ i hm
            have hpl := List.mem_range.mp hp.1
            rw [List.getD_eq_getElem?_getD, List.getElem?_eq_getElem hpl] at e
            rw [List.getElem?_eq_getElem hpl]
            exact congrArg some e
  have h2' : ((List.range P.length).filter fun p => (inS s' (P.getD p none))).length = P.countP (inS s') := h2
  rw [h2']
  omega
/-- where there is a pick, no places have too few near -/
theorem pick_no_few {n : Nat} {ps : List Nat} (hp : Pck cap K n ps) (hc0 : ∀ i, i < K → 0 ≤ cap i) (hn : ∀ p, p < n → ps.getD p 0 ∈ near p) {A : List Nat} (hA : A.Sublist (List.range n)) : fewB near cap K A = false := by
  refine decide_eq_false ?_
  have hAn : ∀ p ∈ A, p < n := fun p h => List.mem_range.mp (hA.subset h)
  have h1 := sum_by (fun _ => 1) K (A.map fun p => ps.getD p 0) fun x hx => by
    obtain ⟨p, hp', rfl⟩ := List.mem_map.mp hx
    exact hp.b _ (getD_mem (by rw [hp.l]; exact hAn p hp'))
  have h3 : ∀ l : List Nat, (l.map fun _ => (1 : Int)).sum = l.length := fun l => by
    induction l with
    | nil => rfl
    | cons a l ih => rw [List.map_cons, List.sum_cons, ih, List.length_cons]; omega
  rw [h3, List.length_map] at h1
  have h2 : smI K (fun i => 1 * (((A.map fun p => ps.getD p 0).count i : Nat) : Int)) ≤ nrS near cap K A := by
    refine smI_le fun i hi => ?_
    have hcnt : (A.map fun p => ps.getD p 0).count i ≤ ps.count i := by
      have hl : (A.map fun p => ps.getD p 0).count i = A.countP ((fun x => x == i) ∘ fun p => ps.getD p 0) := by rw [List.count, List.countP_map]
      rw [hl]
      have e : ps = (List.range n).map fun p => ps.getD p 0 := by
        apply List.ext_getElem
        · simp [hp.l]
        · intro j h1 h2
          simp [h1]
      have : ps.count i = (List.range n).countP ((fun x => x == i) ∘ fun p => ps.getD p 0) := by
        conv => lhs; rw [e]
        rw [List.count, List.countP_map]
      rw [this]
      exact hA.countP_le
    by_cases z : anyN near A i = true
    · rw [if_pos z]
      have := hp.c i hi
      omega
    · rw [if_neg z]
      have : (A.map fun p => ps.getD p 0).count i = 0 := by
        refine List.count_eq_zero.mpr fun h => z ?_
        obtain ⟨p, hp', e⟩ := List.mem_map.mp h
        refine List.any_eq_true.mpr ⟨p, hp', decide_eq_true ?_⟩
        rw [← e]
        exact hn p (hAn p hp')
      omega
  omega
/-! ## place by place -/
structure Plc (near : Nat → List Nat) (cap : Nat → Int) (K k : Nat) (P : Pks) : Prop where
  nr : ∀ p m : Nat, P[p]? = some (some m) → m ∈ near p
  c : ∀ i, i < K → (P.count (some i) : Int) ≤ cap i
  n1 : ∀ p : Nat, P[p]? = some none → k ≤ p
  n2 : ∀ p : Nat, k ≤ p → p < P.length → P[p]? = some none
theorem plc_step {k f : Nat} {P : Pks} (hnK : ∀ a, ∀ m ∈ near a, m < K) (hc0 : ∀ i, i < K → 0 ≤ cap i) (h : Plc near cap K k P) (hk : k < P.length) (hf : K < f) :
    ((mr near cap f P k []).1 = false ∧ ∃ A : List Nat, A.Sublist (List.range P.length) ∧ fewB near cap K A = true) ∨ ((mr near cap f P k []).1 = true ∧ Plc near cap K (k + 1) (mr near cap f P k []).2.1 ∧ (mr near cap f P k []).2.1.length = P.length) := by
  have hPk := h.n2 k (Nat.le_refl _) hk
  rcases mr_ok (near := near) (cap := cap) hnK f P k [] (by simpa using hf) ⟨hk, List.nodup_nil, fun x hx => absurd hx List.not_mem_nil, .inl hPk⟩ with ⟨a1, a2, a3, a4⟩ | ⟨a1, su⟩
  · exact .inl ⟨a1, fail_few hc0 hPk a3 a4⟩
  · refine .inr ⟨a1, ⟨fun p m hm => ?_, fun i hi => ?_, fun p hm => ?_, fun p hp hl => ?_⟩, su.l⟩
    · rcases su.nr p m hm with q | q
      · exact h.nr p m q
      · exact q
    · obtain ⟨fr, _, hfc, hc⟩ := su.c
      have := hc i
      rw [hPk] at this
      simp only [Option.some.injEq, reduceCtorEq, if_false, Nat.add_zero] at this
      have := h.c i hi
      split at * <;> rename_i q
      · subst q; omega
      · omega
    · obtain ⟨q, ne⟩ := su.so p hm
      have := h.n1 p q
      omega
    · rw [su.l] at hl
      exact su.no p (h.n2 p (by omega) hl) (by omega)
theorem plc_start {n : Nat} (hc0 : ∀ i, i < K → 0 ≤ cap i) : Plc near cap K 0 (List.replicate n none) := by
  have r0 : ∀ (p : Nat) (x : Option Nat), (List.replicate n (none : Option Nat))[p]? = some x → x = none := fun p x h => by
    obtain ⟨hp, e⟩ := List.getElem?_eq_some_iff.mp h
    rw [List.getElem_replicate] at e
    exact e.symm
  exact ⟨fun p m h => (by have := r0 p _ h; cases this), fun i hi => (by have := hc0 i hi; rw [List.count_replicate]; simpa using this), fun p _ => Nat.zero_le _, fun p _ hp => by rw [List.getElem?_eq_getElem hp, List.getElem_replicate]⟩
theorem plc_end {P : Pks} (hnK : ∀ a, ∀ m ∈ near a, m < K) (h : Plc near cap K P.length P) : ∃ ps : List Nat, P = ps.map some ∧ Pck cap K P.length ps ∧ ∀ p, p < P.length → ps.getD p 0 ∈ near p := by
  obtain ⟨ps, rfl⟩ : ∃ ps : List Nat, P = ps.map some := by
    have : ∀ Q : Pks, (∀ p : Nat, Q[p]? ≠ some none) → ∃ ps : List Nat, Q = ps.map some := fun Q => by
      induction Q with
      | nil => exact fun _ => ⟨[], rfl⟩
      | cons x Q ih =>
        intro hQ
        obtain ⟨ps, e⟩ := ih fun p => hQ (p + 1)
        rcases x with _ | m
        · exact absurd rfl (hQ 0)
        · exact ⟨m :: ps, by rw [e]; rfl⟩
    refine this P fun p hp => ?_
    have h2 := h.n1 p hp
    have h4 := (List.getElem?_eq_some_iff.mp hp).1
    omega
  have hnr : ∀ p, p < ps.length → ps.getD p 0 ∈ near p := fun p hp => by
    refine h.nr p _ ?_
    rw [List.getElem?_map, List.getElem?_eq_getElem hp, List.getD_eq_getElem?_getD, List.getElem?_eq_getElem hp]; rfl
  refine ⟨ps, rfl, ⟨by rw [List.length_map], fun m hm => ?_, fun i hi => ?_⟩, fun p hp => hnr p (by simpa using hp)⟩
  · obtain ⟨p, hp, e⟩ := List.getElem_of_mem hm
    have := hnr p hp
    rw [List.getD_eq_getElem?_getD, List.getElem?_eq_getElem hp] at this
    rw [← e]
    exact hnK p _ this
  · have := h.c i hi
    have ct : ∀ l : List Nat, (l.map some).count (some i) = l.count i := fun l => by
      induction l with
      | nil => rfl
      | cons a l ih => rw [List.map_cons, List.count_cons, List.count_cons, ih]; simp
    rw [ct] at this
    exact this
end
/-! ## all sets of places -/
def sub2 : Nat → List (List Nat)
  | 0 => [[]]
  | n + 1 => sub2 n ++ (sub2 n).map fun A => A ++ [n]
theorem mem_sub2 : ∀ (n : Nat) (A : List Nat), A ∈ sub2 n ↔ A.Sublist (List.range n)
  | 0, A => by
    show A ∈ [[]] ↔ A.Sublist []
    rw [List.mem_singleton, List.sublist_nil]
  | n + 1, A => by
    show A ∈ sub2 n ++ (sub2 n).map (fun A => A ++ [n]) ↔ _
    rw [List.mem_append, List.range_succ, List.sublist_append_iff, mem_sub2 n]
    constructor
    · rintro (h | h)
      · exact ⟨A, [], (List.append_nil A).symm, h, List.nil_sublist _⟩
      · obtain ⟨B, hB, e⟩ := List.mem_map.mp h
        exact ⟨B, [n], e.symm, (mem_sub2 n B).mp hB, List.Sublist.refl _⟩
    · rintro ⟨B, C, rfl, hB, hC⟩
      rcases C with _ | ⟨c, C⟩
      · rw [List.append_nil]; exact .inl hB
      · have hl := hC.length_le
        have : C = [] := by simpa using hl
        subst this
        have : c = n := by
          have := hC.subset (List.mem_singleton.mpr rfl)
          simpa using this
        subst this
        exact .inr (List.mem_map.mpr ⟨B, (mem_sub2 c B).mpr hB, rfl⟩)
theorem sub2_len : ∀ n, (sub2 n).length = 2 ^ n
  | 0 => rfl
  | n + 1 => by
    show (sub2 n ++ (sub2 n).map fun A => A ++ [n]).length = _
    rw [List.length_append, List.length_map, sub2_len n, Nat.pow_succ]; omega
end
section
variable [Tbl]
/-! ## makes_room, walked -/
def nrL (L : Stk) (D : List Int) (t : Int) (p : Nat) : List Nat := (List.range L.length).filter fun i => decide (csS L D p i ≤ t)
theorem nrL_lt {L : Stk} {D : List Int} {t : Int} : ∀ a, ∀ m ∈ nrL L D t a, m < L.length := fun a m h => List.mem_range.mp (List.mem_filter.mp h).1
theorem r_near_kinds {L : Stk} {D : List Int} {p : Nat} (hp : p < D.length) (hL : L.length ≤ 1000) (t : Int) (st : Sto) : m_near_kinds [.d (stD L), .d (.tuple (D.map .int)), (.d (.int ((p : Int)))), (.d (.int (t)))] st = .ok (.d (.list (natL (nrL L D t p)))) st := by
  have hlen := len_stk L
  have rg : ∀ st, rg1W [(.d (.int ((L.length : Int))))] st = .ok ⟨rangeD 0 L.length, []⟩ st := fun st => by
    rw [rg1_ok (i := (L.length : Int)) st (by omega) (by omega)]; simp
  have f := lcL_filterE (g := gN 5) (t := tBl (eOp2 leD (eCall m_cost_of (aCons (eVar 0) (aCons (eVar 1) (aCons (eVar 2) (aCons (eVar 5) aNil))))) (eVar 3))) (c := eVar 5) (env := [some (.d (stD L)), some (.d (.tuple (D.map .int))), some (.d (.int ((p : Int)))), some (.d (.int (t))), none, none]) (st := st) (fun i : Nat => PyData.int (i : Int)) (fun i : Nat => PyData.int (i : Int)) (fun i => decide (csS L D p i ≤ t)) (List.range L.length) [] fun i hi => ⟨_, rfl, by
    have c := fun st => r_cost_of (L := L) (D := D) (List.mem_range.mp hi) hp st
    generalize stD L = SD at *
    generalize D.map PyData.int = DD at *
    generalize csS L D p i = CC at *
    simp -implicitDefEqProofs [c], fun _ => by simp⟩
  rw [List.nil_append, ← rangeD0] at f
  have f : lcL (gN 5) (tBl (eOp2 leD (eCall m_cost_of (aCons (eVar 0) (aCons (eVar 1) (aCons (eVar 2) (aCons (eVar 5) aNil))))) (eVar 3))) (eVar 5) [] [some (.d (stD L)), some (.d (.tuple (D.map .int))), some (.d (.int ((p : Int)))), some (.d (.int (t))), none, none] (rangeD 0 L.length) [] st = .ok (natL (nrL L D t p)) st := f
  have rl : (rangeD 0 L.length).length ≤ 1000000 := by rw [rangeD_len]; omega
  generalize natL (nrL L D t p) = NL at *
  generalize rangeD 0 L.length = RD at *
  generalize stD L = SD at *
  generalize D.map PyData.int = DD at *
  unfold m_near_kinds d_near_kinds
  simp -implicitDefEqProofs [hlen, rg, rl, wipeE, f]
theorem ni_nat (s : List Nat) (n : Nat) : niD (.int (n : Int)) (.list (natL s)) = some (.bool (!decide (n ∈ s))) := by
  have pl : ∀ s : List Nat, PyData.plainAll (natL s) = true := fun s => by
    induction s with
    | nil => rfl
    | cons a s ih =>
      show (true && PyData.plainAll (natL s)) = true
      rw [ih]; rfl
  have ok : inOk (.int (n : Int)) (natL s) = true := by
    unfold inOk
    rw [pl, show PyData.plain (.int (n : Int)) = true from rfl, Bool.true_and, Bool.true_and, decide_eq_true_iff]
    exact Nat.le_trans (Nat.min_le_right _ _) (by show 0 ≤ 40; omega)
  show ((if inOk (.int (n : Int)) (natL s) = true then some ((natL s).any fun y => PyData.eqv y (.int (n : Int))) else none).map fun b => PyData.bool (!b)) = _
  rw [if_pos ok]
  show some (PyData.bool (!_)) = _
  congr 3
  unfold natL
  rw [List.any_map, Bool.eq_iff_iff, List.any_eq_true, decide_eq_true_iff]
  constructor
  · rintro ⟨x, hx, e⟩
    have e : decide ((x : Int) = (n : Int)) = true := e
    rw [decide_eq_true_iff] at e
    rw [show n = x by omega]; exact hx
  · intro h
    exact ⟨n, h, (by show decide ((n : Int) = (n : Int)) = true; exact decide_eq_true rfl)⟩
theorem eq_encO (x : Option Nat) (n : Nat) : eqD (encO x) (.int (n : Int)) = some (.bool (decide (x = some n))) := by
  rcases x with _ | x
  · rfl
  · show eqD (.int (x : Int)) (.int (n : Int)) = _
    rw [o_eq_i]
    congr 2
    rw [Bool.eq_iff_iff, beq_iff_eq, decide_eq_true_iff, Option.some.injEq]
    omega
theorem isLd_l {i : Nat} {st : Sto} {xs : List PyData} (h : st[i]? = some (.lst xs)) : isLd st (.r i) = true := by
  unfold isLd
  rw [look_l h]
def SS (r q : Nat) (st : Sto) (P : Pks) (s : List Nat) : Sto := (st.set r (.lst (pksL P))).set q (.lst (natL s))
theorem pks_set1 (f : Pks) (a n : Nat) : (pksL f).set a (.int (n : Int)) = pksL (f.set a (some n)) := by
  unfold pksL
  rw [List.map_set]; rfl
section
variable {L : Stk} {D : List Int} {t : Int} {r q : Nat} {st : Sto}
theorem ss_r (hr : r < st.length) (hrq : r ≠ q) (P : Pks) (s : List Nat) : (SS r q st P s)[r]? = some (.lst (pksL P)) := by
  unfold SS
  rw [List.getElem?_set_ne (Ne.symm hrq), List.getElem?_set_self hr]
theorem ss_q (hq : q < st.length) (P : Pks) (s : List Nat) : (SS r q st P s)[q]? = some (.lst (natL s)) := by
  unfold SS
  exact List.getElem?_set_self (by rw [List.length_set]; exact hq)
theorem ss_setr (hrq : r ≠ q) (P P' : Pks) (s : List Nat) : (SS r q st P s).set r (.lst (pksL P')) = SS r q st P' s := by
  unfold SS
  rw [List.set_comm _ _ hrq.symm, List.set_set]
theorem ss_setq (P : Pks) (s s' : List Nat) : (SS r q st P s).set q (.lst (natL s')) = SS r q st P s' := by
  unfold SS
  rw [List.set_set]
theorem ss_len (P : Pks) (s : List Nat) : (SS r q st P s).length = st.length := by
  unfold SS
  rw [List.length_set, List.length_set]
/-- what a call is to give -/
def Rec (L : Stk) (D : List Int) (t : Int) (r q : Nat) (st : Sto) (f : Nat) (mf : List Wv → Sto → Rs Wv) : Prop := ∀ (P : Pks) (a : Nat) (s : List Nat), L.length < f + s.length → Pre L.length P a s → P.length = D.length →
  mf [.d (stD L), .d (.tuple (D.map .int)), (.d (.int (t))), .r r, (.d (.int ((a : Int)))), .r q] (SS r q st P s) = .ok (.d (.bool (mr (nrL L D t) (cpS L) f P a s).1)) (SS r q st (mr (nrL L D t) (cpS L) f P a s).2.1 (mr (nrL L D t) (cpS L) f P a s).2.2)
theorem mr_l1 (hr : r < st.length) (hq : q < st.length) (hrq : r ≠ q) {f : Nat} {mf : List Wv → Sto → Rs Wv} (h : Rec L D t r q st f mf) {a n : Nat} (ha : a < D.length) : ∀ (os : List Nat) (P : Pks) (s : List Nat), n ∈ s → L.length < f + s.length → s.Nodup → (∀ x ∈ s, x < L.length) → (∀ o ∈ os, P[o]? = some (some n)) → P.length = D.length →
    forL (gN 7) (d_makes_room_l1 mf) [] (natL os) [some (.d (stD L)), some (.d (.tuple (D.map .int))), some (.d (.int (t))), some (.r r), some (.d (.int ((a : Int)))), some (.r q), some (.d (.int ((n : Int)))), none, none, none] (SS r q st P s) =
    if (mrO (mr (nrL L D t) (cpS L) f) os P s).1 = true then .rt (.w (.d (.bool true))) (SS r q st ((mrO (mr (nrL L D t) (cpS L) f) os P s).2.1.set a (some n)) (mrO (mr (nrL L D t) (cpS L) f) os P s).2.2)
    else .nx [some (.d (stD L)), some (.d (.tuple (D.map .int))), some (.d (.int (t))), some (.r r), some (.d (.int ((a : Int)))), some (.r q), some (.d (.int ((n : Int)))), none, none, none] (SS r q st (mrO (mr (nrL L D t) (cpS L) f) os P s).2.1 (mrO (mr (nrL L D t) (cpS L) f) os P s).2.2)
  | [], P, s, _, _, _, _, _, _ => by
    show forL _ _ [] [] _ _ = _
    rw [forL_nil]; rfl
  | o :: os, P, s, hn, hf, nd, b, ho, hl => by
    have hp := ho o (by simp)
    have pre : Pre L.length P o s := ⟨(List.getElem?_eq_some_iff.mp hp).1, nd, b, .inr ⟨n, hn, hp⟩⟩
    have e := h P o s hf pre hl
    have good := mr_ok (near := nrL L D t) (cap := cpS L) nrL_lt f P o s hf pre
    show forL _ _ [] (PyData.int (o : Int) :: natL os) _ _ = _
    rw [forL_cons]
    rcases em : mr (nrL L D t) (cpS L) f P o s with ⟨_ | _, P', s'⟩
    · rw [em] at e good
      have eo : mrO (mr (nrL L D t) (cpS L) f) (o :: os) P s = mrO (mr (nrL L D t) (cpS L) f) os P' s' := by
        show (match mr (nrL L D t) (cpS L) f P o s with | (true, P', s') => (true, P', s') | (false, P', s') => mrO (mr (nrL L D t) (cpS L) f) os P' s') = _
        rw [em]
      rw [eo]
      rcases good with ⟨_, g2, g3, _⟩ | ⟨g1, _⟩
      rotate_left
      · cases g1
      dsimp only at g2 g3 e
      subst g2
      have hls := ndl_le s' s nd g3.up
      have ih := mr_l1 hr hq hrq h ha os P' s' (g3.up n hn) (by omega) g3.nd g3.b (fun x hx => ho x (by simp [hx])) hl
      rw [← ih]
      have turn : d_makes_room_l1 mf [some (.d (stD L)), some (.d (.tuple (D.map .int))), some (.d (.int (t))), some (.r r), some (.d (.int ((a : Int)))), some (.r q), some (.d (.int ((n : Int)))), some (.d (.int ((o : Int)))), none, none] (SS r q st P' s) = .nx [some (.d (stD L)), some (.d (.tuple (D.map .int))), some (.d (.int (t))), some (.r r), some (.d (.int ((a : Int)))), some (.r q), some (.d (.int ((n : Int)))), none, none, none] (SS r q st P' s') := by
        generalize SS r q st P' s' = S2 at *
        generalize SS r q st P' s = S1 at *
        generalize stD L = SD at *
        generalize D.map PyData.int = DD at *
        unfold d_makes_room_l1
        simp -implicitDefEqProofs [e]
      show (d_makes_room_l1 mf [some (.d (stD L)), some (.d (.tuple (D.map .int))), some (.d (.int (t))), some (.r r), some (.d (.int ((a : Int)))), some (.r q), some (.d (.int ((n : Int)))), some (.d (.int ((o : Int)))), none, none] (SS r q st P' s)).seq _ = _
      rw [turn]; rfl
    · rw [em] at e good
      have eo : mrO (mr (nrL L D t) (cpS L) f) (o :: os) P s = (true, P', s') := by
        show (match mr (nrL L D t) (cpS L) f P o s with | (true, P', s') => (true, P', s') | (false, P', s') => mrO (mr (nrL L D t) (cpS L) f) os P' s') = _
        rw [em]
      rw [eo, if_pos rfl]
      rcases good with ⟨g1, _⟩ | ⟨_, su⟩
      · cases g1
      dsimp only at su e
      have gr := ss_r hr hrq P' s'
      have sw := setW_l gr (t := (a : Int)) (q := a) (ixN_nat (by unfold pksL; rw [List.length_map, su.l, hl]; exact ha)) (.int (n : Int))
      rw [pks_set1, ss_setr hrq] at sw
      have turn : d_makes_room_l1 mf [some (.d (stD L)), some (.d (.tuple (D.map .int))), some (.d (.int (t))), some (.r r), some (.d (.int ((a : Int)))), some (.r q), some (.d (.int ((n : Int)))), some (.d (.int ((o : Int)))), none, none] (SS r q st P s) = .rt (.w (.d (.bool true))) (SS r q st (P'.set a (some n)) s') := by
        generalize SS r q st (P'.set a (some n)) s' = S3 at *
        generalize SS r q st P' s' = S2 at *
        generalize SS r q st P s = S1 at *
        generalize stD L = SD at *
        generalize D.map PyData.int = DD at *
        unfold d_makes_room_l1
        simp -implicitDefEqProofs [e, sixW, sw]
      show (d_makes_room_l1 mf [some (.d (stD L)), some (.d (.tuple (D.map .int))), some (.d (.int (t))), some (.r r), some (.d (.int ((a : Int)))), some (.r q), some (.d (.int ((n : Int)))), some (.d (.int ((o : Int)))), none, none] (SS r q st P s)).seq _ = _
      rw [turn]; rfl
theorem oth_l {P : Pks} (hP : P.length ≤ 1000) {n : Nat} (v7 : Option Wv) (a : Nat) (S : Sto) (hS : S[r]? = some (.lst (pksL P))) :
    lcL (gN 9) (tBl (eOp2 eqD (eOp2 ixD (eVar 3) (eVar 9)) (eVar 6))) (eVar 9) [] [some (.d (stD L)), some (.d (.tuple (D.map .int))), some (.d (.int (t))), some (.r r), some (.d (.int ((a : Int)))), some (.r q), some (.d (.int ((n : Int)))), v7, none, none] (rangeD 0 P.length) [] S = .ok (natL (othP P n)) S := by
  have f := lcL_filterE (g := gN 9) (t := tBl (eOp2 eqD (eOp2 ixD (eVar 3) (eVar 9)) (eVar 6))) (c := eVar 9) (env := [some (.d (stD L)), some (.d (.tuple (D.map .int))), some (.d (.int (t))), some (.r r), some (.d (.int ((a : Int)))), some (.r q), some (.d (.int ((n : Int)))), v7, none, none]) (st := S) (fun i : Nat => PyData.int (i : Int)) (fun i : Nat => PyData.int (i : Int)) (fun p => decide (P.getD p none = some n)) (List.range P.length) [] fun i hi => ⟨_, rfl, by
    have hi := List.mem_range.mp hi
    have lk := look1_l hS
    have ix : ixD (.list (pksL P)) (.int (i : Int)) = some (encO (P.getD i none)) := by
      show atD (pksL P) (i : Int) = _
      rw [atD_nat]
      unfold pksL
      rw [List.getElem?_map, List.getElem?_eq_getElem hi, List.getD_eq_getElem?_getD, List.getElem?_eq_getElem hi]; rfl
    have eq := eq_encO (P.getD i none) n
    generalize encO (P.getD i none) = EP at *
    generalize decide (P.getD i none = some n) = b at *
    generalize pksL P = PL at *
    generalize stD L = SD at *
    simp -implicitDefEqProofs [lk, ix, eq], fun _ => by simp⟩
  rw [List.nil_append, ← rangeD0] at f
  exact f
theorem mr_l2 (hr : r < st.length) (hq : q < st.length) (hrq : r ≠ q) (hL : L.length ≤ 1000) (hD : D.length ≤ 1000) {f : Nat} {mf : List Wv → Sto → Rs Wv} (h : Rec L D t r q st f mf) {a : Nat} (ha : a < D.length) : ∀ (ns : List Nat) (P : Pks) (s : List Nat), (∀ m ∈ ns, m ∈ nrL L D t a) → L.length < f + 1 + s.length → Pre L.length P a s → P.length = D.length →
    forL (gN 6) (d_makes_room_l2 mf) [] (natL ns) [some (.d (stD L)), some (.d (.tuple (D.map .int))), some (.d (.int (t))), some (.r r), some (.d (.int ((a : Int)))), some (.r q), none, none, none, none] (SS r q st P s) =
    if (mrK (mr (nrL L D t) (cpS L) f) (cpS L) a ns P s).1 = true then .rt (.w (.d (.bool true))) (SS r q st (mrK (mr (nrL L D t) (cpS L) f) (cpS L) a ns P s).2.1 (mrK (mr (nrL L D t) (cpS L) f) (cpS L) a ns P s).2.2)
    else .nx [some (.d (stD L)), some (.d (.tuple (D.map .int))), some (.d (.int (t))), some (.r r), some (.d (.int ((a : Int)))), some (.r q), none, none, none, none] (SS r q st (mrK (mr (nrL L D t) (cpS L) f) (cpS L) a ns P s).2.1 (mrK (mr (nrL L D t) (cpS L) f) (cpS L) a ns P s).2.2)
  | [], P, s, _, _, _, _ => by
    show forL _ _ [] [] _ _ = _
    rw [forL_nil]; rfl
  | n :: ns, P, s, hns, hf, hp, hl => by
    have hn := hns n (by simp)
    have hnk := nrL_lt a n hn
    have sl := pig L.length s hp.nd hp.b
    show forL _ _ [] (PyData.int (n : Int) :: natL ns) _ _ = _
    rw [forL_cons]
    show (d_makes_room_l2 mf [some (.d (stD L)), some (.d (.tuple (D.map .int))), some (.d (.int (t))), some (.r r), some (.d (.int ((a : Int)))), some (.r q), some (.d (.int ((n : Int)))), none, none, none] (SS r q st P s)).seq _ = _
    have gq := ss_q hq (r := r) P s
    have gr := ss_r hr hrq P s
    have lkq := look1_l gq
    have ni := ni_nat s n
    by_cases z : n ∈ s
    · have eo : mrK (mr (nrL L D t) (cpS L) f) (cpS L) a (n :: ns) P s = mrK (mr (nrL L D t) (cpS L) f) (cpS L) a ns P s := if_pos z
      rw [eo, ← mr_l2 hr hq hrq hL hD h ha ns P s (fun m hm => hns m (by simp [hm])) hf hp hl]
      rw [decide_eq_true z] at ni
      have turn : d_makes_room_l2 mf [some (.d (stD L)), some (.d (.tuple (D.map .int))), some (.d (.int (t))), some (.r r), some (.d (.int ((a : Int)))), some (.r q), some (.d (.int ((n : Int)))), none, none, none] (SS r q st P s) = .nx [some (.d (stD L)), some (.d (.tuple (D.map .int))), some (.d (.int (t))), some (.r r), some (.d (.int ((a : Int)))), some (.r q), none, none, none, none] (SS r q st P s) := by
        generalize SS r q st P s = S1 at *
        generalize stD L = SD at *
        generalize D.map PyData.int = DD at *
        generalize natL s = NS at *
        unfold d_makes_room_l2
        simp -implicitDefEqProofs [lkq, ni]
      rw [turn]; rfl
    · rw [decide_eq_false z] at ni
      have ilq := isLst_l gq
      have apq := appW_l gq (by unfold natL; rw [List.length_map]; omega) (.int (n : Int))
      rw [show natL s ++ [.int (n : Int)] = natL (s ++ [n]) by unfold natL; rw [List.map_append]; rfl, ss_setq] at apq
      have gr1 := ss_r hr hrq P (s ++ [n])
      have lkr := look1_l gr1
      have ldr := isLd_l gr1
      have lor := look_l gr1
      have cn := cnt_pks P n
      have x1 := ix_stk hnk
      have x3 := ix_kd3 L n
      by_cases y : (P.count (some n) : Int) < cpS L n
      · have eo : mrK (mr (nrL L D t) (cpS L) f) (cpS L) a (n :: ns) P s = (true, P.set a (some n), s ++ [n]) := by
          show (if n ∈ s then _ else if (P.count (some n) : Int) < cpS L n then _ else _) = _
          rw [if_neg z, if_pos y]
        rw [eo, if_pos rfl]
        have sw := setW_l gr1 (t := (a : Int)) (q := a) (ixN_nat (by unfold pksL; rw [List.length_map, hl]; exact ha)) (.int (n : Int))
        rw [pks_set1, ss_setr hrq] at sw
        have turn : d_makes_room_l2 mf [some (.d (stD L)), some (.d (.tuple (D.map .int))), some (.d (.int (t))), some (.r r), some (.d (.int ((a : Int)))), some (.r q), some (.d (.int ((n : Int)))), none, none, none] (SS r q st P s) = .rt (.w (.d (.bool true))) (SS r q st (P.set a (some n)) (s ++ [n])) := by
          generalize SS r q st (P.set a (some n)) (s ++ [n]) = S3 at *
          generalize SS r q st P (s ++ [n]) = S2 at *
          generalize SS r q st P s = S1 at *
          generalize pksL P = PL at *
          generalize ((P.count (some n) : Nat) : Int) = CC at *
          generalize eKd (L.getD n ((0, 0, 0), 0)) = EK at *
          generalize stD L = SD at *
          generalize D.map PyData.int = DD at *
          generalize natL s = NS at *
          unfold d_makes_room_l2
          simp -implicitDefEqProofs [lkq, ni, ilq, apq, lkr, ldr, lor, cn, x1, x3, y, sixW, sw]
        rw [turn]; rfl
      · have nd1 : (s ++ [n]).Nodup := List.nodup_append.mpr ⟨hp.nd, by simp, fun x hx y hy e => by rw [List.mem_singleton] at hy; subst hy; exact z (e ▸ hx)⟩
        have b1 : ∀ x ∈ s ++ [n], x < L.length := fun x hx => by
          rcases List.mem_append.mp hx with hx | hx
          · exact hp.b x hx
          · rw [List.mem_singleton] at hx; rw [hx]; exact hnk
        have hf1 : L.length < f + (s ++ [n]).length := by rw [List.length_append, List.length_singleton]; omega
        have inner := mr_l1 hr hq hrq h ha (othP P n) P (s ++ [n]) (by simp) hf1 nd1 b1 (fun o ho => mem_oth.mp ho) hl
        have good := mrO_ok (n := n) (mr_ok (near := nrL L D t) (cap := cpS L) nrL_lt f) (othP P n) P (s ++ [n]) (by simp) hf1 nd1 b1 fun o ho => mem_oth.mp ho
        have oth := oth_l (L := L) (D := D) (t := t) (q := q) (by rw [hl]; exact hD) (n := n) none a (SS r q st P (s ++ [n])) gr1
        have lkl := looks_l1 gr1
        have hpl : lenF [.list (pksL P)] = some (.int (P.length : Int)) := by unfold pksL; simp
        have rg : ∀ st, rg1W [(.d (.int ((P.length : Int))))] st = .ok ⟨rangeD 0 P.length, []⟩ st := fun st => by
          rw [rg1_ok (i := (P.length : Int)) st (by omega) (by omega)]; simp
        have rl : (rangeD 0 P.length).length ≤ 1000000 := by rw [rangeD_len]; omega
        have sd : ∀ xs st, srcW (.d (.list xs)) st = .ok ⟨xs, []⟩ st := fun xs st => rfl
        rcases em : mrO (mr (nrL L D t) (cpS L) f) (othP P n) P (s ++ [n]) with ⟨_ | _, P', s'⟩
        · have eo : mrK (mr (nrL L D t) (cpS L) f) (cpS L) a (n :: ns) P s = mrK (mr (nrL L D t) (cpS L) f) (cpS L) a ns P' s' := by
            show (if n ∈ s then _ else if (P.count (some n) : Int) < cpS L n then _ else (match mrO (mr (nrL L D t) (cpS L) f) (othP P n) P (s ++ [n]) with | (true, P', s') => (true, P'.set a (some n), s') | (false, P', s') => mrK (mr (nrL L D t) (cpS L) f) (cpS L) a ns P' s')) = _
            rw [if_neg z, if_neg y, em]
          rw [em] at inner good
          rcases good with ⟨_, g2, g3, g4⟩ | ⟨g1, _⟩
          rotate_left
          · cases g1
          dsimp only at g2 g3 g4
          subst g2
          rw [if_neg Bool.false_ne_true] at inner
          dsimp only at inner
          have hls := ndl_le s' s hp.nd fun x hx => g3.up x (by simp [hx])
          have hp' : Pre L.length P' a s' := ⟨hp.al, g3.nd, g3.b, by
            rcases hp.at' with h | ⟨m, hm, h⟩
            · exact .inl h
            · exact .inr ⟨m, g3.up m (by simp [hm]), h⟩⟩
          rw [eo, ← mr_l2 hr hq hrq hL hD h ha ns P' s' (fun m hm => hns m (by simp [hm])) (by omega) hp' hl]
          have turn : d_makes_room_l2 mf [some (.d (stD L)), some (.d (.tuple (D.map .int))), some (.d (.int (t))), some (.r r), some (.d (.int ((a : Int)))), some (.r q), some (.d (.int ((n : Int)))), none, none, none] (SS r q st P' s) = .nx [some (.d (stD L)), some (.d (.tuple (D.map .int))), some (.d (.int (t))), some (.r r), some (.d (.int ((a : Int)))), some (.r q), none, none, none, none] (SS r q st P' s') := by
            generalize SS r q st P' s' = S3 at *
            generalize SS r q st P' (s ++ [n]) = S2 at *
            generalize SS r q st P' s = S1 at *
            generalize natL (othP P' n) = OL at *
            generalize pksL P' = PL at *
            generalize ((P'.count (some n) : Nat) : Int) = CC at *
            generalize eKd (L.getD n ((0, 0, 0), 0)) = EK at *
            generalize stD L = SD at *
            generalize D.map PyData.int = DD at *
            generalize natL s = NS at *
            generalize rangeD 0 P'.length = RD at *
            generalize (P'.length : Int) = NP at *
            unfold d_makes_room_l2
            simp -implicitDefEqProofs [lkq, ni, ilq, apq, lkr, ldr, lor, cn, x1, x3, y, lkl, hpl, rg, rl, wipeE, oth, sd, inner, -forL_cons]
          rw [turn]; rfl
        · have eo : mrK (mr (nrL L D t) (cpS L) f) (cpS L) a (n :: ns) P s = (true, P'.set a (some n), s') := by
            show (if n ∈ s then _ else if (P.count (some n) : Int) < cpS L n then _ else (match mrO (mr (nrL L D t) (cpS L) f) (othP P n) P (s ++ [n]) with | (true, P', s') => (true, P'.set a (some n), s') | (false, P', s') => mrK (mr (nrL L D t) (cpS L) f) (cpS L) a ns P' s')) = _
            rw [if_neg z, if_neg y, em]
          rw [em] at inner
          rw [if_pos rfl] at inner
          dsimp only at inner
          rw [eo, if_pos rfl]
          dsimp only
          have turn : d_makes_room_l2 mf [some (.d (stD L)), some (.d (.tuple (D.map .int))), some (.d (.int (t))), some (.r r), some (.d (.int ((a : Int)))), some (.r q), some (.d (.int ((n : Int)))), none, none, none] (SS r q st P s) = .rt (.w (.d (.bool true))) (SS r q st (P'.set a (some n)) s') := by
            generalize SS r q st (P'.set a (some n)) s' = S3 at *
            generalize SS r q st P (s ++ [n]) = S2 at *
            generalize SS r q st P s = S1 at *
            generalize natL (othP P n) = OL at *
            generalize pksL P = PL at *
            generalize ((P.count (some n) : Nat) : Int) = CC at *
            generalize eKd (L.getD n ((0, 0, 0), 0)) = EK at *
            generalize stD L = SD at *
            generalize D.map PyData.int = DD at *
            generalize natL s = NS at *
            generalize rangeD 0 P.length = RD at *
            generalize (P.length : Int) = NP at *
            unfold d_makes_room_l2
            simp -implicitDefEqProofs [lkq, ni, ilq, apq, lkr, ldr, lor, cn, x1, x3, y, lkl, hpl, rg, rl, wipeE, oth, sd, inner, -forL_cons]
          rw [turn]; rfl
theorem r_makes_room (hr : r < st.length) (hq : q < st.length) (hrq : r ≠ q) (hL : L.length ≤ 1000) (hD : D.length ≤ 1000) : ∀ f, Rec L D t r q st f (m_makes_room f)
  | 0 => fun P a s hf hp _ => by
    have := pig L.length s hp.nd hp.b
    omega
  | f + 1 => fun P a s hf hp hl => by
    have ha : a < D.length := by rw [← hl]; exact hp.al
    have lp := mr_l2 hr hq hrq hL hD (r_makes_room hr hq hrq hL hD f) ha (nrL L D t a) P s (fun _ h => h) hf hp hl
    have e0 : mr (nrL L D t) (cpS L) (f + 1) P a s = mrK (mr (nrL L D t) (cpS L) f) (cpS L) a (nrL L D t a) P s := rfl
    rw [e0]
    have nk := fun st => r_near_kinds (L := L) ha hL t st
    have sd : ∀ xs st, srcW (.d (.list xs)) st = .ok ⟨xs, []⟩ st := fun xs st => rfl
    have sl := ss_len (r := r) (q := q) (st := st) P s
    rcases em : mrK (mr (nrL L D t) (cpS L) f) (cpS L) a (nrL L D t a) P s with ⟨b, P', s'⟩
    rw [em] at lp
    dsimp only at lp ⊢
    have sl' := ss_len (r := r) (q := q) (st := st) P' s'
    have tk : (SS r q st P' s').take (SS r q st P s).length = SS r q st P' s' := by rw [sl, ← sl', List.take_length]
    generalize natL (nrL L D t a) = NL at *
    generalize SS r q st P' s' = S2 at *
    generalize SS r q st P s = S1 at *
    generalize stD L = SD at *
    generalize D.map PyData.int = DD at *
    show mkF _ _ (d_makes_room (m_makes_room f)) _ _ = _
    unfold d_makes_room
    cases b
    · rw [if_neg Bool.false_ne_true] at lp
      simp -implicitDefEqProofs [nk, sd, lp, tk, -forL_cons]
    · rw [if_pos rfl] at lp
      simp -implicitDefEqProofs [nk, sd, lp, tk, -forL_cons]
end
end
section
variable [Tbl]
open PySem.W (Datum DatumOrd Tup minOf maxOf listLt)
/-! ## total orders, the least of some -/
class TotLt (α : Type) [DecidableEq α] [DatumOrd α] : Prop where
  irr : ∀ a : α, DatumOrd.lt a a = false
  tr : ∀ a b c : α, DatumOrd.lt a b = true → DatumOrd.lt b c = true → DatumOrd.lt a c = true
  tot : ∀ a b : α, a ≠ b → DatumOrd.lt a b = true ∨ DatumOrd.lt b a = true
theorem lt_int (a b : Int) : DatumOrd.lt a b = decide (a < b) := rfl
instance : TotLt Int where
  irr a := by rw [lt_int]; simp
  tr a b c h1 h2 := by rw [lt_int, decide_eq_true_eq] at *; omega
  tot a b h := by rw [lt_int, lt_int, decide_eq_true_eq, decide_eq_true_eq]; omega
section
variable {α β : Type} [DecidableEq α] [DatumOrd α] [DecidableEq β] [DatumOrd β] [TotLt α] [TotLt β]
theorem listLt_irr : ∀ xs : List α, listLt xs xs = false
  | [] => rfl
  | x :: xs => by unfold listLt; rw [if_pos rfl]; exact listLt_irr xs
theorem listLt_tot : ∀ xs ys : List α, xs ≠ ys → listLt xs ys = true ∨ listLt ys xs = true
  | [], [], h => absurd rfl h
  | [], _ :: _, _ => .inl rfl
  | _ :: _, [], _ => .inr rfl
  | x :: xs, y :: ys, h => by
    unfold listLt
    by_cases e : x = y
    · subst e
      rw [if_pos rfl, if_pos rfl]
      exact listLt_tot xs ys fun z => h (by rw [z])
    · rw [if_neg e, if_neg fun z => e z.symm]
      exact TotLt.tot x y e
theorem listLt_tr : ∀ xs ys zs : List α, listLt xs ys = true → listLt ys zs = true → listLt xs zs = true
  | [], [], _, h, _ => by cases h
  | [], _ :: _, [], _, h => by cases h
  | [], _ :: _, _ :: _, _, _ => rfl
  | _ :: _, [], _, h, _ => by cases h
  | _ :: _, _ :: _, [], _, h => by cases h
  | x :: xs, y :: ys, z :: zs, h1, h2 => by
    unfold listLt at *
    by_cases e : x = y
    · subst e
      rw [if_pos rfl] at h1
      by_cases e2 : x = z
      · subst e2
        rw [if_pos rfl] at h2 ⊢
        exact listLt_tr xs ys zs h1 h2
      · rw [if_neg e2] at h2 ⊢
        exact h2
    · rw [if_neg e] at h1
      by_cases e2 : y = z
      · subst e2
        rw [if_neg e]
        exact h1
      · rw [if_neg e2] at h2
        have h3 := TotLt.tr _ _ _ h1 h2
        by_cases e3 : x = z
        · subst e3
          rw [TotLt.irr] at h3
          cases h3
        · rw [if_neg e3]
          exact h3
instance : TotLt (List α) := ⟨listLt_irr, listLt_tr, listLt_tot⟩
instance : TotLt (Tup α) := ⟨fun a => listLt_irr a.items, fun a b c => listLt_tr a.items b.items c.items, fun a b h => listLt_tot a.items b.items fun e => h (by cases a; cases b; cases e; rfl)⟩
theorem lt_pair (p q : α × β) : DatumOrd.lt p q = if p.1 = q.1 then DatumOrd.lt p.2 q.2 else DatumOrd.lt p.1 q.1 := rfl
instance : TotLt (α × β) where
  irr p := by rw [lt_pair, if_pos rfl]; exact TotLt.irr _
  tr p q r h1 h2 := by
    rw [lt_pair] at *
    by_cases e : p.1 = q.1
    · rw [if_pos e] at h1
      rw [e]
      by_cases e2 : q.1 = r.1
      · rw [if_pos e2] at h2 ⊢
        exact TotLt.tr _ _ _ h1 h2
      · rw [if_neg e2] at h2 ⊢
        exact h2
    · rw [if_neg e] at h1
      by_cases e2 : q.1 = r.1
      · rw [← e2, if_neg e]
        exact h1
      · rw [if_neg e2] at h2
        have h3 := TotLt.tr _ _ _ h1 h2
        by_cases e3 : p.1 = r.1
        · rw [e3, TotLt.irr] at h3
          cases h3
        · rw [if_neg e3]
          exact h3
  tot p q h := by
    rw [lt_pair, lt_pair]
    by_cases e : p.1 = q.1
    · rw [if_pos e, if_pos e.symm]
      exact TotLt.tot _ _ fun e2 => h (Prod.ext e e2)
    · rw [if_neg e, if_neg fun z => e z.symm]
      exact TotLt.tot _ _ e
/-- the fold's end is the least -/
theorem minOf_le : ∀ (xs : List α) (x : α), ∀ y ∈ x :: xs, DatumOrd.lt y (minOf x xs) = false
  | [], x, y, h => by
    rw [List.mem_singleton.mp h]
    exact TotLt.irr x
  | z :: xs, x, y, h => by
    have e : minOf x (z :: xs) = minOf (if DatumOrd.lt z x = true then z else x) xs := rfl
    rw [e]
    have ih := minOf_le xs (if DatumOrd.lt z x = true then z else x)
    have h0 := ih _ List.mem_cons_self
    have key : ∀ w, DatumOrd.lt w (if DatumOrd.lt z x = true then z else x) = false → DatumOrd.lt w (minOf (if DatumOrd.lt z x = true then z else x) xs) = false := fun w hw => by
      generalize (if DatumOrd.lt z x = true then z else x) = u at *
      generalize minOf u xs = m at *
      cases q : DatumOrd.lt w m with
      | false => rfl
      | true =>
        by_cases e2 : m = u
        · rw [e2, hw] at q; cases q
        · rcases TotLt.tot m u e2 with z | z
          · rw [TotLt.tr _ _ _ q z] at hw; cases hw
          · rw [z] at h0; cases h0
    rcases List.mem_cons.mp h with rfl | h
    · refine key _ ?_
      split
      · rename_i q
        cases q2 : DatumOrd.lt y z with
        | false => rfl
        | true => have := TotLt.tr _ _ _ q q2; rw [TotLt.irr] at this; cases this
      · exact TotLt.irr _
    · rcases List.mem_cons.mp h with rfl | h
      · refine key _ ?_
        split
        · exact TotLt.irr _
        · rename_i q; simpa using q
      · exact ih y (List.mem_cons_of_mem _ h)
theorem leastOf_le {xs : List α} {z : α} (e : leastOf xs = some z) : ∀ y ∈ xs, DatumOrd.lt y z = false := by
  cases xs with
  | nil => cases e
  | cons x xs => cases e; exact minOf_le xs x
theorem least_uniq {z w : α} (h1 : DatumOrd.lt z w = false) (h2 : DatumOrd.lt w z = false) : z = w := by
  by_cases e : z = w
  · exact e
  · rcases TotLt.tot z w e with q | q
    · rw [q] at h1; cases h1
    · rw [q] at h2; cases h2
theorem least_of {xs : List α} {z : α} (hz : z ∈ xs) (h : ∀ y ∈ xs, DatumOrd.lt y z = false) : leastOf xs = some z := by
  obtain ⟨w, hw⟩ := leastOf_some (List.ne_nil_of_mem hz)
  rw [hw, least_uniq (leastOf_le hw z hz) (h w (leastOf_mem hw))]
end
end
section
variable [Tbl]
open PySem.W (Datum DatumOrd Tup)
/-! ## pick_within -/
theorem ss_id {r q : Nat} {st : Sto} {P : Pks} {s : List Nat} (h1 : st[r]? = some (.lst (pksL P))) (h2 : st[q]? = some (.lst (natL s))) : SS r q st P s = st := by
  have sid : ∀ (i : Nat) (o : Ob), st[i]? = some o → st.set i o = st := fun i o h => by
    obtain ⟨hi, e⟩ := List.getElem?_eq_some_iff.mp h
    apply List.ext_getElem?
    intro j
    by_cases z : j = i
    · subst z; rw [List.getElem?_set_self hi, h]
    · rw [List.getElem?_set_ne (Ne.symm z)]
  unfold SS
  rw [sid r _ h1, sid q _ h2]
section
variable {L : Stk} {D : List Int} {t : Int}
/-- what the loop finds, from a place on -/
theorem pw_go (hS : SOk L) (hL : L.length ≤ 8) (hD : D.length ≤ 1000) (st0 : Sto) : ∀ (j k : Nat) (P : Pks) (st : Sto), k + j = D.length → P.length = D.length → Plc (nrL L D t) (cpS L) L.length k P → st[st0.length]? = some (.lst (pksL P)) → st.take st0.length = st0 →
    (∃ P' st', forL (gN 4) d_pick_within_l1 [] (natL (List.range' k j)) [some (.d (stD L)), some (.d (.tuple (D.map .int))), some (.d (.int (t))), some (.r st0.length), none] st = .nx [some (.d (stD L)), some (.d (.tuple (D.map .int))), some (.d (.int (t))), some (.r st0.length), none] st' ∧ st'[st0.length]? = some (.lst (pksL P')) ∧ st'.take st0.length = st0 ∧ P'.length = D.length ∧ Plc (nrL L D t) (cpS L) L.length D.length P') ∨
    (∃ st', forL (gN 4) d_pick_within_l1 [] (natL (List.range' k j)) [some (.d (stD L)), some (.d (.tuple (D.map .int))), some (.d (.int (t))), some (.r st0.length), none] st = .rt (.w (.d .none)) st' ∧ st'.take st0.length = st0 ∧ ∃ A : List Nat, A.Sublist (List.range D.length) ∧ fewB (nrL L D t) (cpS L) L.length A = true)
  | 0, k, P, st, hk, hl, pl, hg, ht => .inl ⟨P, st, by
      show forL _ _ [] [] _ _ = _
      rw [forL_nil], hg, ht, hl, by rw [show D.length = k by omega]; exact pl⟩
  | j + 1, k, P, st, hk, hl, pl, hg, ht => by
    have hc0 : ∀ i, i < L.length → 0 ≤ cpS L i := fun i hi => by have := cp_ge hS hi; omega
    have hr : st0.length < st.length := (List.getElem?_eq_some_iff.mp hg).1
    have g1 : (st ++ [Ob.lst (natL [])])[st0.length]? = some (.lst (pksL P)) := by rw [List.getElem?_append_left hr]; exact hg
    have g2 : (st ++ [Ob.lst (natL [])])[st.length]? = some (.lst (natL [])) := by rw [List.getElem?_append_right (Nat.le_refl _)]; simp
    have id0 := ss_id g1 g2
    have hpl : k < P.length := by omega
    have pre : Pre L.length P k [] := ⟨hpl, List.nodup_nil, fun x hx => absurd hx List.not_mem_nil, .inl (pl.n2 k (Nat.le_refl _) hpl)⟩
    have e := r_makes_room (L := L) (D := D) (t := t) (r := st0.length) (q := st.length) (st := st ++ [Ob.lst (natL [])]) (by simp; omega) (by simp) (by omega) (by omega) hD 10 P k [] (by simp; omega) pre hl
    rw [id0] at e
    have stp := plc_step (f := 10) (nrL_lt (L := L) (D := D) (t := t)) hc0 pl hpl (by omega)
    have nw : newW [] st = .ok (.r st.length) (st ++ [.lst (natL [])]) := rfl
    show _ ∨ _
    rw [show natL (List.range' k (j + 1)) = PyData.int (k : Int) :: natL (List.range' (k + 1) j) from rfl]
    have fc : forL (gN 4) d_pick_within_l1 [] (PyData.int (k : Int) :: natL (List.range' (k + 1) j)) [some (.d (stD L)), some (.d (.tuple (D.map .int))), some (.d (.int (t))), some (.r st0.length), none] st = (d_pick_within_l1 [some (.d (stD L)), some (.d (.tuple (D.map .int))), some (.d (.int (t))), some (.r st0.length), some (.d (.int ((k : Int))))] st).seq (forL (gN 4) d_pick_within_l1 [] (natL (List.range' (k + 1) j))) := by
      rw [forL_cons]; rfl
    rw [fc]
    rcases em : mr (nrL L D t) (cpS L) 10 P k [] with ⟨_ | _, P', s'⟩
    · rw [em] at e stp
      rcases stp with ⟨_, A, hA, hf⟩ | ⟨q, _⟩
      rotate_left
      · cases q
      refine .inr ⟨SS st0.length st.length (st ++ [.lst (natL [])]) P' s', ?_, ?_, A, by rw [← hl]; exact hA, hf⟩
      · have turn : d_pick_within_l1 [some (.d (stD L)), some (.d (.tuple (D.map .int))), some (.d (.int (t))), some (.r st0.length), some (.d (.int ((k : Int))))] st = .rt (.w (.d .none)) (SS st0.length st.length (st ++ [.lst (natL [])]) P' s') := by
          dsimp only at e
          generalize SS st0.length st.length (st ++ [.lst (natL [])]) P' s' = S2 at *
          generalize hS1 : st ++ [Ob.lst (natL [])] = S1 at *
          generalize stD L = SD at *
          generalize D.map PyData.int = DD at *
          unfold d_pick_within_l1
          simp -implicitDefEqProofs [nw, e]
        rw [turn]; rfl
      · unfold SS
        rw [take_set_ge (by omega), take_set_ge (Nat.le_refl _), List.take_append_of_le_length (by omega)]
        exact ht
    · rw [em] at e stp
      rcases stp with ⟨q, _⟩ | ⟨_, pl', hl'⟩
      · cases q
      dsimp only at pl' hl' e
      have g3 := ss_r (r := st0.length) (q := st.length) (st := st ++ [Ob.lst (natL [])]) (by simp; omega) (by omega) P' s'
      have turn : d_pick_within_l1 [some (.d (stD L)), some (.d (.tuple (D.map .int))), some (.d (.int (t))), some (.r st0.length), some (.d (.int ((k : Int))))] st = .nx [some (.d (stD L)), some (.d (.tuple (D.map .int))), some (.d (.int (t))), some (.r st0.length), none] (SS st0.length st.length (st ++ [.lst (natL [])]) P' s') := by
        clear g3
        generalize SS st0.length st.length (st ++ [.lst (natL [])]) P' s' = S2 at *
        generalize hS1 : st ++ [Ob.lst (natL [])] = S1 at *
        generalize stD L = SD at *
        generalize D.map PyData.int = DD at *
        unfold d_pick_within_l1
        simp -implicitDefEqProofs [nw, e]
      have ih := pw_go hS hL hD st0 j (k + 1) P' (SS st0.length st.length (st ++ [.lst (natL [])]) P' s') (by omega) (by rw [hl', hl]) pl' g3 (by
        unfold SS
        rw [take_set_ge (by omega), take_set_ge (Nat.le_refl _), List.take_append_of_le_length (by omega)]
        exact ht)
      rw [turn]
      exact ih
theorem r_pick_within (hS : SOk L) (hL : L.length ≤ 8) (hD : D.length ≤ 1000) (st : Sto) :
    (∃ ps, m_pick_within [.d (stD L), .d (.tuple (D.map .int)), (.d (.int (t)))] st = .ok (.d (pkD ps)) st ∧ Pck (cpS L) L.length D.length ps ∧ ∀ p, p < D.length → ps.getD p 0 ∈ nrL L D t p) ∨
    (m_pick_within [.d (stD L), .d (.tuple (D.map .int)), (.d (.int (t)))] st = .ok (.d .none) st ∧ ∃ A : List Nat, A.Sublist (List.range D.length) ∧ fewB (nrL L D t) (cpS L) L.length A = true) := by
  have hc0 : ∀ i, i < L.length → 0 ≤ cpS L i := fun i hi => by have := cp_ge hS hi; omega
  have g0 : (st ++ [Ob.lst (pksL (List.replicate D.length none))])[st.length]? = some (.lst (pksL (List.replicate D.length none))) := by rw [List.getElem?_append_right (Nat.le_refl _)]; simp
  have go := pw_go (t := t) hS hL hD st D.length 0 (List.replicate D.length none) (st ++ [.lst (pksL (List.replicate D.length none))]) (by omega) (by simp) (plc_start hc0) g0 (by simp)
  rw [show natL (List.range' 0 D.length) = rangeD 0 D.length by rw [rangeD0, List.range_eq_range']; rfl] at go
  have ml : mulN (.list [.none]) (.int (D.length : Int)) = some (pksL (List.replicate D.length none)) := by
    show (if 0 ≤ (D.length : Int) ∧ (D.length : Int) ≤ 1000 ∧ [PyData.none].length ≤ 1000 then some (List.replicate (D.length : Int).toNat [PyData.none]).flatten else none) = _
    rw [if_pos ⟨by omega, by omega, by decide⟩, Int.toNat_natCast]
    congr 1
    generalize D.length = n
    induction n with
    | zero => rfl
    | succ n ih => rw [List.replicate_succ, List.flatten_cons, ih]; rfl
  have no : newO (some (pksL (List.replicate D.length none))) st = .ok (.r st.length) (st ++ [.lst (pksL (List.replicate D.length none))]) := rfl
  have lw1 : ∀ a st, lstW [.d a] st = .ok (.d (.list [a])) st := fun a st => rfl
  have hdr := len_dr D
  have rg : ∀ st, rg1W [(.d (.int ((D.length : Int))))] st = .ok ⟨rangeD 0 D.length, []⟩ st := fun st => by
    rw [rg1_ok (i := (D.length : Int)) st (by omega) (by omega)]; simp
  rcases go with ⟨P', st', f, g, tk, hl, pl⟩ | ⟨st', f, tk, hA⟩
  · rw [← hl] at pl
    obtain ⟨ps, rfl, hp, hn⟩ := plc_end (nrL_lt (L := L) (D := D) (t := t)) pl
    rw [hl] at hp hn
    refine .inl ⟨ps, ?_, hp, hn⟩
    have lk := looks_l1 g
    have tp : tupF [.list (pksL (ps.map some))] = some (pkD ps) := by
      rw [o_tup_l]
      congr 2
      unfold pksL natL
      rw [List.map_map]; rfl
    clear g
    generalize pkD ps = PD at *
    generalize pksL (ps.map some) = PS at *
    generalize pksL (List.replicate D.length none) = P0 at *
    generalize hS0 : st ++ [Ob.lst P0] = S0 at *
    generalize rangeD 0 D.length = RD at *
    generalize stD L = SD at *
    generalize (D.length : Int) = N at *
    generalize D.map PyData.int = DD at *
    unfold m_pick_within d_pick_within
    simp -implicitDefEqProofs [lw1, hdr, ml, no, rg, f, lk, tp, tk, -forL_cons, -o_tup_l]
  · refine .inr ⟨?_, hA⟩
    generalize pksL (List.replicate D.length none) = P0 at *
    generalize hS0 : st ++ [Ob.lst P0] = S0 at *
    generalize rangeD 0 D.length = RD at *
    generalize stD L = SD at *
    generalize (D.length : Int) = N at *
    generalize D.map PyData.int = DD at *
    unfold m_pick_within d_pick_within
    simp -implicitDefEqProofs [lw1, hdr, ml, no, rg, f, tk, -forL_cons]
end
end
section
variable [Tbl]
open PySem.W (Datum DatumOrd Tup)
/-! ## are_few, few_places, within, walked -/
def addK (ks : List Nat) (i : Nat) : List Nat := if i ∈ ks then ks else ks ++ [i]
def kvL (L : Stk) (ks : List Nat) : List (Int × Int) := ks.map fun i : Nat => ((i : Int), cpS L i)
theorem addK_nd {ks : List Nat} (h : ks.Nodup) (i : Nat) : (addK ks i).Nodup := by
  unfold addK
  split
  · exact h
  · rename_i z
    exact List.nodup_append.mpr ⟨h, by simp, fun x hx y hy e => by rw [List.mem_singleton] at hy; subst hy; exact z (e ▸ hx)⟩
theorem addK_mem {ks : List Nat} {i j : Nat} : j ∈ addK ks i ↔ j = i ∨ j ∈ ks := by
  unfold addK
  split
  · rename_i z
    exact ⟨.inr, fun h => h.elim (fun e => e ▸ z) id⟩
  · rw [List.mem_append, List.mem_singleton]; exact or_comm
theorem kv_put (L : Stk) (ks : List Nat) (i : Nat) : putA (kvL L ks) (i : Int) (cpS L i) = kvL L (addK ks i) := by
  have hs : (valA (kvL L ks) (i : Int)).isSome = true ↔ i ∈ ks := by
    rw [valA_some]
    unfold kvL
    rw [List.map_map]
    constructor
    · intro h
      obtain ⟨j, hj, e⟩ := List.mem_map.mp h
      have e : (j : Int) = (i : Int) := e
      rw [show i = j by omega]; exact hj
    · intro h
      exact List.mem_map.mpr ⟨i, h, rfl⟩
  unfold putA addK
  by_cases z : i ∈ ks
  · rw [if_pos (hs.mpr z), if_pos z]
    unfold kvL
    rw [List.map_map]
    refine List.map_congr_left fun (j : Nat) _ => ?_
    show (if (j : Int) = (i : Int) then ((j : Int), cpS L i) else ((j : Int), cpS L j)) = _
    split
    · rename_i e
      rw [show j = i by omega]
    · rfl
  · rw [if_neg fun h => z (hs.mp h), if_neg z]
    unfold kvL
    rw [List.map_append]; rfl
theorem fold_mem (ns : List Nat) : ∀ (ks : List Nat) (j : Nat), j ∈ ns.foldl addK ks ↔ j ∈ ns ∨ j ∈ ks := by
  induction ns with
  | nil => intro ks j; simp
  | cons n ns ih =>
    intro ks j
    rw [List.foldl_cons, ih, addK_mem, List.mem_cons]
    constructor
    · rintro (h | h | h)
      · exact .inl (.inr h)
      · exact .inl (.inl h)
      · exact .inr h
    · rintro ((h | h) | h)
      · exact .inr (.inl h)
      · exact .inl h
      · exact .inr (.inr h)
theorem sum_in (f : Nat → Int) (K : Nat) : ∀ ks : List Nat, ks.Nodup → (∀ i ∈ ks, i < K) → (ks.map f).sum = smI K fun i => if i ∈ ks then f i else 0
  | [], _, _ => by
    have : (fun i => if i ∈ ([] : List Nat) then f i else 0) = fun _ => 0 := funext fun i => by simp
    rw [this, smI_zero']; rfl
  | k :: ks, nd, h => by
    rw [List.nodup_cons] at nd
    have ih := sum_in f K ks nd.2 fun i hi => h i (by simp [hi])
    have e : (fun i => if i ∈ k :: ks then f i else 0) = fun i => (if i ∈ ks then f i else 0) + if i = k then f k else 0 := funext fun i => by
      by_cases q : i = k
      · subst q
        rw [if_pos (by simp), if_neg nd.1, if_pos rfl]; omega
      · rw [if_neg q]
        by_cases y : i ∈ ks
        · rw [if_pos (by simp [y]), if_pos y]; omega
        · rw [if_neg (by simp [q, y]), if_neg y]; rfl
    rw [List.map_cons, List.sum_cons, ih, e, smI_add, smI_one K k (h k (by simp))]
    omega
theorem anyN_iff {near : Nat → List Nat} {A : List Nat} {i : Nat} : anyN near A i = true ↔ ∃ p ∈ A, i ∈ near p := by
  unfold anyN
  rw [List.any_eq_true]
  exact ⟨fun ⟨p, h, e⟩ => ⟨p, h, of_decide_eq_true e⟩, fun ⟨p, h, e⟩ => ⟨p, h, decide_eq_true e⟩⟩
section
variable {L : Stk} {D : List Int} {t : Int}
/-- the state of the walk -/
structure KsOk (L : Stk) (ks : List Nat) : Prop where
  nd : ks.Nodup
  b : ∀ i ∈ ks, i < L.length
theorem af_l1 (hL : L.length ≤ 1000) {ks : List Nat} (hk : KsOk L ks) {i : Nat} (hi : i < L.length) (v3 v5 : Option Wv) (st : Sto) :
    d_are_few_l1 [some (.d (stD L)), some (.d (.tuple (D.map .int))), some (.d (.int (t))), v3, some (.r st.length), v5, some (.d (.int ((i : Int))))] (st ++ [.dct (dI PyData.int (kvL L ks))]) =
    .nx [some (.d (stD L)), some (.d (.tuple (D.map .int))), some (.d (.int (t))), v3, some (.r st.length), v5, none] (st ++ [.dct (dI PyData.int (kvL L (addK ks i)))]) := by
  have g0 : (st ++ [Ob.dct (dI PyData.int (kvL L ks))])[st.length]? = some (.dct (dI PyData.int (kvL L ks))) := get_mid st [] _
  have kl := pig L.length ks hk.nd hk.b
  have sw := dI_set g0 (by unfold kvL; rw [List.length_map]; omega) (i : Int) (cpS L i)
  rw [set_mid, kv_put] at sw
  have x1 := ix_stk hi
  have x3 := ix_kd3 L i
  generalize hS2 : st ++ [Ob.dct (dI PyData.int (kvL L (addK ks i)))] = S2 at *
  generalize hS1 : st ++ [Ob.dct (dI PyData.int (kvL L ks))] = S1 at *
  generalize eKd (L.getD i ((0, 0, 0), 0)) = EK at *
  generalize cpS L i = CP at *
  generalize stD L = SD at *
  generalize D.map PyData.int = DD at *
  unfold d_are_few_l1
  simp -implicitDefEqProofs [x1, x3, sixW, sw]
theorem af_l2 (hL : L.length ≤ 1000) {ks : List Nat} (hk : KsOk L ks) {p : Nat} (hp : p < D.length) (v3 : Option Wv) (st : Sto) :
    d_are_few_l2 [some (.d (stD L)), some (.d (.tuple (D.map .int))), some (.d (.int (t))), v3, some (.r st.length), some (.d (.int ((p : Int)))), none] (st ++ [.dct (dI PyData.int (kvL L ks))]) =
    .nx [some (.d (stD L)), some (.d (.tuple (D.map .int))), some (.d (.int (t))), v3, some (.r st.length), none, none] (st ++ [.dct (dI PyData.int (kvL L ((nrL L D t p).foldl addK ks)))]) ∧ KsOk L ((nrL L D t p).foldl addK ks) := by
  have nk := fun st => r_near_kinds (L := L) hp hL t st
  have sd : ∀ xs st, srcW (.d (.list xs)) st = .ok ⟨xs, []⟩ st := fun xs st => rfl
  have lp := forL_fold (g := gN 6) (b := d_are_few_l1) (fun i : Nat => PyData.int (i : Int)) (fun _ : List Nat => [some (.d (stD L)), some (.d (.tuple (D.map .int))), some (.d (.int (t))), v3, some (.r st.length), some (.d (.int ((p : Int)))), none]) (fun ks : List Nat => st ++ [Ob.dct (dI PyData.int (kvL L ks))]) addK (KsOk L) (nrL L D t p) (fun ks i hi hk => ⟨_, rfl, af_l1 hL hk (nrL_lt p i hi) v3 _ st, addK_nd hk.nd i, fun j hj => by
    rcases addK_mem.mp hj with rfl | hj
    · exact nrL_lt p _ hi
    · exact hk.b j hj⟩) ks hk
  refine ⟨?_, lp.2⟩
  have lp := lp.1
  have lp : forL (gN 6) d_are_few_l1 [] (natL (nrL L D t p)) [some (.d (stD L)), some (.d (.tuple (D.map .int))), some (.d (.int (t))), v3, some (.r st.length), some (.d (.int ((p : Int)))), none] (st ++ [.dct (dI PyData.int (kvL L ks))]) = .nx [some (.d (stD L)), some (.d (.tuple (D.map .int))), some (.d (.int (t))), v3, some (.r st.length), some (.d (.int ((p : Int)))), none] (st ++ [.dct (dI PyData.int (kvL L ((nrL L D t p).foldl addK ks)))]) := lp
  generalize hS2 : st ++ [Ob.dct (dI PyData.int (kvL L ((nrL L D t p).foldl addK ks)))] = S2 at *
  generalize hS1 : st ++ [Ob.dct (dI PyData.int (kvL L ks))] = S1 at *
  generalize natL (nrL L D t p) = NL at *
  generalize stD L = SD at *
  generalize D.map PyData.int = DD at *
  unfold d_are_few_l2
  simp -implicitDefEqProofs [nk, sd, lp, -forL_cons]
theorem r_are_few (hL : L.length ≤ 1000) {A : List Nat} (hA : ∀ p ∈ A, p < D.length) (hl : A.length ≤ 1000) (st : Sto) : m_are_few [.d (stD L), .d (.tuple (D.map .int)), (.d (.int (t))), .d (pkD A)] st = .ok (.d (.bool (fewB (nrL L D t) (cpS L) L.length A))) st := by
  have lp := forL_fold (g := gN 5) (b := d_are_few_l2) (fun i : Nat => PyData.int (i : Int)) (fun _ : List Nat => [some (.d (stD L)), some (.d (.tuple (D.map .int))), some (.d (.int (t))), some (.d (pkD A)), some (.r st.length), none, none]) (fun ks : List Nat => st ++ [Ob.dct (dI PyData.int (kvL L ks))]) (fun ks p => (nrL L D t p).foldl addK ks) (KsOk L) A (fun ks p hp hk => ⟨_, rfl, af_l2 hL hk (hA p hp) _ st⟩) [] ⟨List.nodup_nil, fun i hi => absurd hi List.not_mem_nil⟩
  obtain ⟨ks, hks⟩ : ∃ ks, ks = A.foldl (fun ks p => (nrL L D t p).foldl addK ks) [] := ⟨_, rfl⟩
  rw [← hks] at lp
  have mem : ∀ j, j ∈ ks ↔ anyN (nrL L D t) A j = true := fun j => by
    have : ∀ (B : List Nat) (ks : List Nat), j ∈ B.foldl (fun ks p => (nrL L D t p).foldl addK ks) ks ↔ (∃ p ∈ B, j ∈ nrL L D t p) ∨ j ∈ ks := fun B => by
      induction B with
      | nil => intro ks; simp
      | cons p B ih =>
        intro ks
        rw [List.foldl_cons, ih, fold_mem]
        constructor
        · rintro (⟨x, hx, h⟩ | h | h)
          · exact .inl ⟨x, by simp [hx], h⟩
          · exact .inl ⟨p, by simp, h⟩
          · exact .inr h
        · rintro (⟨x, hx, h⟩ | h)
          · rcases List.mem_cons.mp hx with rfl | hx
            · exact .inr (.inl h)
            · exact .inl ⟨x, hx, h⟩
          · exact .inr (.inr h)
    rw [hks, this, anyN_iff]
    simp
  obtain ⟨lp, hk⟩ := lp
  have lp : forL (gN 5) d_are_few_l2 [] (natL A) [some (.d (stD L)), some (.d (.tuple (D.map .int))), some (.d (.int (t))), some (.d (pkD A)), some (.r st.length), none, none] (st ++ [.dct []]) = .nx [some (.d (stD L)), some (.d (.tuple (D.map .int))), some (.d (.int (t))), some (.d (pkD A)), some (.r st.length), none, none] (st ++ [.dct (dI PyData.int (kvL L ks))]) := lp
  have g0 : (st ++ [Ob.dct (dI PyData.int (kvL L ks))])[st.length]? = some (.dct (dI PyData.int (kvL L ks))) := get_mid st [] _
  have fz := frzV_k g0
  rw [set_mid] at fz
  have kl := pig L.length ks hk.nd hk.b
  have vl := o_vls (es := dI PyData.int (kvL L ks)) (dI_kind _ _) (by unfold dI kvL; rw [List.length_map, List.length_map]; omega)
  have ev : (dI PyData.int (kvL L ks)).map (·.2) = (ks.map (cpS L)).map .int := by
    unfold dI kvL
    rw [List.map_map, List.map_map, List.map_map]; rfl
  rw [ev] at vl
  have sm := o_sum_l (ks.map (cpS L))
  have en : (ks.map (cpS L)).sum = nrS (nrL L D t) (cpS L) L.length A := by
    rw [sum_in (cpS L) L.length ks hk.nd hk.b]
    unfold nrS
    congr 1
    funext i
    by_cases z : i ∈ ks
    · rw [if_pos z, if_pos ((mem i).mp z)]
    · rw [if_neg z, if_neg fun h => z ((mem i).mpr h)]
  rw [en] at sm
  have la : lenF [pkD A] = some (.int (A.length : Int)) := by
    show some (PyData.int ((natL A).length : Int)) = _
    unfold natL; rw [List.length_map]
  have tk : (st ++ [Ob.lkd (dI PyData.int (kvL L ks))]).take st.length = st := take_mid _ _
  have sp : ∀ st, srcW (.d (pkD A)) st = .ok ⟨natL A, []⟩ st := fun st => rfl
  have fb : fewB (nrL L D t) (cpS L) L.length A = decide (nrS (nrL L D t) (cpS L) L.length A < (A.length : Int)) := rfl
  rw [fb]
  clear g0 ev en fb hks mem
  generalize nrS (nrL L D t) (cpS L) L.length A = NS at *
  generalize (A.length : Int) = AL at *
  generalize (ks.map (cpS L)).map PyData.int = VL at *
  generalize dI PyData.int (kvL L ks) = ES at *
  generalize hS1 : st ++ [Ob.dct []] = S1 at *
  generalize hS2 : st ++ [Ob.dct ES] = S2 at *
  generalize hS3 : st ++ [Ob.lkd ES] = S3 at *
  generalize pkD A = PA at *
  generalize natL A = NA at *
  generalize stD L = SD at *
  generalize D.map PyData.int = DD at *
  unfold m_are_few d_are_few
  simp -implicitDefEqProofs [eFrz, hS1, sp, lp, fz, vl, sm, la, tk, -forL_cons]
/-! ### the fewest places -/
def kyA (A : List Nat) : Int × Tup Int := ((A.length : Int), ⟨A.map fun n : Nat => (n : Int)⟩)
theorem toD_ky (A : List Nat) : (Datum.toD (kyA A) : PyData) = .tuple [.int (A.length : Int), pkD A] := by
  show PyData.tuple [.int (A.length : Int), .tuple ((A.map fun n : Nat => (n : Int)).map .int)] = _
  rw [List.map_map]; rfl
/-- the sets of places that have too few near to them, with how many they are -/
def fewR (L : Stk) (D : List Int) (t : Int) : List (Int × Tup Int) := ((sub2 D.length).filter fun A => fewB (nrL L D t) (cpS L) L.length A).map kyA
theorem sub2_in {n : Nat} {A : List Nat} (h : A ∈ sub2 n) : (∀ p ∈ A, p < n) ∧ A.length ≤ n := by
  have hs := (mem_sub2 n A).mp h
  exact ⟨fun p hp => List.mem_range.mp (hs.subset hp), by have := hs.length_le; rwa [List.length_range] at this⟩
theorem few_l1 {g : Wv → En → Option En} {k : Nat} {env : Nat → PyData → En} (st : Sto) (hk : k ≤ 8) (c : En → Sto → Rs Wv)
    (h : ∀ A : List Nat, A ∈ sub2 k → ∃ env1, g (.d (pkD A)) (env k (.list ((sub2 k).map pkD))) = some env1 ∧ c env1 st = .ok (.d (pkD (A ++ [k]))) st) :
    lcL g tYs c [] (env k (.list ((sub2 k).map pkD))) ((sub2 k).map pkD) [] st = .ok (((sub2 k).map fun A => A ++ [k]).map pkD) st := by
  have e := lcL_mapE (g := g) (c := c) (env := env k (.list ((sub2 k).map pkD))) (st := st) pkD (fun A => pkD (A ++ [k])) (sub2 k) [] h
  rw [List.nil_append] at e
  rw [e, List.map_map]; rfl
theorem add_pk {A : List Nat} (k : Nat) (hA : A.length ≤ 1000) : addD (pkD A) (.tuple [.int (k : Int)]) = some (pkD (A ++ [k])) := by
  show addD (.tuple (natL A)) _ = _
  rw [o_add_t, if_pos (by unfold natL; rw [List.length_map, List.length_singleton]; omega)]
  unfold pkD natL
  rw [List.map_append]; rfl
theorem sub2_le {n : Nat} (h : n ≤ 8) : (sub2 n).length ≤ 256 := by
  rw [sub2_len]
  exact Nat.le_trans (Nat.pow_le_pow_right (by decide) h) (by decide)
theorem add_sub {k : Nat} (hk : k < 8) : addD (.list ((sub2 k).map pkD)) (.list (((sub2 k).map fun A => A ++ [k]).map pkD)) = some (.list ((sub2 (k + 1)).map pkD)) := by
  have := sub2_le (show k ≤ 8 by omega)
  rw [o_add_l, if_pos (by rw [List.length_map, List.length_map, List.length_map]; omega)]
  congr 2
  show _ = (sub2 k ++ (sub2 k).map fun A => A ++ [k]).map pkD
  rw [List.map_append]
theorem fp_l1 {k : Nat} (hk : k < 8) (v0 v1 v2 : Option Wv) (st : Sto) :
    d_few_places_l1 [v0, v1, v2, some (.d (.list ((sub2 k).map pkD))), some (.d (.int ((k : Int)))), none, none, none] st = .nx [v0, v1, v2, some (.d (.list ((sub2 (k + 1)).map pkD))), none, none, none, none] st := by
  have lc := few_l1 (g := gN 7) (k := k) (env := fun k d => [v0, v1, v2, some (.d d), some (.d (.int ((k : Int)))), none, none, none]) st (by omega) (eOp2 addD (eVar 7) (eTup (aCons (eVar 4) aNil))) fun A hA => ⟨_, rfl, by
    have tw1 : ∀ a st, tupW [.d a] st = .ok (.d (.tuple [a])) st := fun a st => rfl
    have ad := add_pk k (A := A) (by have := (sub2_in hA).2; omega)
    generalize (sub2 k).map pkD = X at *
    generalize pkD A = PA at *
    generalize pkD (A ++ [k]) = PB at *
    simp -implicitDefEqProofs [tw1, ad]⟩
  have ad := add_sub hk
  have sd : ∀ xs st, srcW (.d (.list xs)) st = .ok ⟨xs, []⟩ st := fun xs st => rfl
  have hl : ((sub2 k).map pkD).length ≤ 1000000 := by rw [List.length_map]; have := sub2_le (show k ≤ 8 by omega); omega
  generalize (sub2 (k + 1)).map pkD = X2 at *
  generalize ((sub2 k).map fun A => A ++ [k]).map pkD = X1 at *
  generalize (sub2 k).map pkD = X0 at *
  unfold d_few_places_l1
  simp -implicitDefEqProofs [sd, hl, wipeE, lc, ad]
theorem r_few_places (hL : L.length ≤ 1000) (h8 : D.length ≤ 8) {z : Int × Tup Int} (hz : leastOf (fewR L D t) = some z) (st : Sto) : m_few_places [.d (stD L), .d (.tuple (D.map .int)), (.d (.int (t)))] st = .ok (.d (.tuple (z.2.items.map .int))) st := by
  have lp := forL_at (g := gN 4) (b := d_few_places_l1) (fun k => [some (.d (stD L)), some (.d (.tuple (D.map .int))), some (.d (.int (t))), some (.d (.list ((sub2 k).map pkD))), none, none, none, none]) (fun _ => st) (rangeD 0 D.length) fun i x hx => by
    obtain ⟨hi, rfl⟩ := rangeD_get hx
    rw [show (0 : Int) + (i : Nat) = (i : Int) by omega]
    exact ⟨_, rfl, fp_l1 (by omega) _ _ _ st⟩
  rw [rangeD_len] at lp
  have hl := sub2_le h8
  have f1 := lcL_filterE (g := gN 7) (t := tTru (eCall m_are_few (aCons (eVar 0) (aCons (eVar 1) (aCons (eVar 2) (aCons (eVar 7) aNil)))))) (c := eVar 7) (env := [some (.d (stD L)), some (.d (.tuple (D.map .int))), some (.d (.int (t))), some (.d (.list ((sub2 D.length).map pkD))), none, none, none, none]) (st := st) pkD pkD (fun A => fewB (nrL L D t) (cpS L) L.length A) (sub2 D.length) [] fun A hA => ⟨_, rfl, by
    have e := fun st => r_are_few (L := L) (D := D) (t := t) hL (sub2_in hA).1 (by have := (sub2_in hA).2; omega) st
    generalize fewB (nrL L D t) (cpS L) L.length A = b at *
    generalize (sub2 D.length).map pkD = X at *
    generalize pkD A = PA at *
    generalize stD L = SD at *
    generalize D.map PyData.int = DD at *
    simp -implicitDefEqProofs [e], fun _ => by simp⟩
  rw [List.nil_append] at f1
  have f2 := lcL_mapE (g := gN 7) (c := eTup (aCons (eOpN lenF (aCons (eVar 7) aNil)) (aCons (eVar 7) aNil))) (env := [some (.d (stD L)), some (.d (.tuple (D.map .int))), some (.d (.int (t))), some (.d (.list ((sub2 D.length).map pkD))), none, some (.d (.list (((sub2 D.length).filter fun A => fewB (nrL L D t) (cpS L) L.length A).map pkD))), none, none]) (st := st) pkD (fun A => Datum.toD (kyA A)) ((sub2 D.length).filter fun A => fewB (nrL L D t) (cpS L) L.length A) [] fun A _ => ⟨_, rfl, by
    have la : lenF [pkD A] = some (.int (A.length : Int)) := by
      show some (PyData.int ((natL A).length : Int)) = _
      unfold natL; rw [List.length_map]
    have tw2 : ∀ a b st, tupW [.d a, .d b] st = .ok (.d (.tuple [a, b])) st := fun a b st => rfl
    rw [toD_ky]
    generalize (sub2 D.length).map pkD = X at *
    generalize ((sub2 D.length).filter fun A => fewB (nrL L D t) (cpS L) L.length A).map pkD = Y at *
    generalize pkD A = PA at *
    generalize stD L = SD at *
    generalize D.map PyData.int = DD at *
    simp -implicitDefEqProofs [la, tw2]⟩
  rw [List.nil_append, show (((sub2 D.length).filter fun A => fewB (nrL L D t) (cpS L) L.length A).map fun A => (Datum.toD (kyA A) : PyData)) = (fewR L D t).map Datum.toD by unfold fewR; rw [List.map_map]; rfl] at f2
  have mn := q_least hz
  have x1 : ixD (Datum.toD z) (.int 1) = some (.tuple (z.2.items.map .int)) := rfl
  have sd : ∀ xs st, srcW (.d (.list xs)) st = .ok ⟨xs, []⟩ st := fun xs st => rfl
  have l1 : ((sub2 D.length).map pkD).length ≤ 1000000 := by rw [List.length_map]; omega
  have l2 : (((sub2 D.length).filter fun A => fewB (nrL L D t) (cpS L) L.length A).map pkD).length ≤ 1000000 := by
    rw [List.length_map]
    have := List.length_filter_le (fun A => fewB (nrL L D t) (cpS L) L.length A) (sub2 D.length)
    omega
  have hdr := len_dr D
  have rg : ∀ st, rg1W [(.d (.int ((D.length : Int))))] st = .ok ⟨rangeD 0 D.length, []⟩ st := fun st => by
    rw [rg1_ok (i := (D.length : Int)) st (by omega) (by omega)]; simp
  have lw : ∀ st, lstW [.d (.tuple [])] st = .ok (.d (.list ((sub2 0).map pkD))) st := fun st => rfl
  have tw0 : ∀ st, tupW [] st = .ok (.d (.tuple [])) st := fun st => rfl
  generalize (fewR L D t).map Datum.toD = FR at *
  generalize (Datum.toD z : PyData) = TZ at *
  generalize ((sub2 D.length).filter fun A => fewB (nrL L D t) (cpS L) L.length A).map pkD = Y at *
  generalize (sub2 D.length).map pkD = X at *
  generalize (sub2 0).map pkD = X0 at *
  generalize rangeD 0 D.length = RD at *
  generalize (D.length : Int) = N at *
  generalize stD L = SD at *
  generalize D.map PyData.int = DD at *
  unfold m_few_places d_few_places
  simp -implicitDefEqProofs [tw0, lw, hdr, rg, lp, sd, l1, wipeE, f1, l2, f2, mn, x1, -forL_cons]
/-- what within tells -/
theorem r_within (hS : Sk L) (h8 : L.length ≤ 8) (hD : Dr D) (ht : 0 ≤ t ∧ t ≤ 20) (st : Sto) :
    (∃ ps, m_within [.d (stD L), .d (.tuple (D.map .int)), (.d (.int (t)))] st = .ok (.d (.tuple [.str "pick", pkD ps])) st ∧ Pck (cpS L) L.length D.length ps ∧ (∀ p, p < D.length → ps.getD p 0 ∈ nrL L D t p) ∧ fewR L D t = []) ∨
    (∃ z, leastOf (fewR L D t) = some z ∧ m_within [.d (stD L), .d (.tuple (D.map .int)), (.d (.int (t)))] st = .ok (.d (.tuple [.str "few", .tuple (z.2.items.map .int)])) st) := by
  have d8 := hD.l8
  have hc0 : ∀ i, i < L.length → 0 ≤ cpS L i := fun i hi => by have := cp_ge hS.ok hi; omega
  have n1 := fun st => r_need_stockY hS st
  have n2 := fun st => r_need_drawingY hD st
  have hl := len_stk L
  have lt : ¬ (8 : Int) < (L.length : Int) := by omega
  have n3 : ∀ st, m_need_few [.d (stD L)] st = .ok (.d .none) st := fun st => by
    generalize stD L = SD at *
    unfold m_need_few d_need_few
    simp -implicitDefEqProofs [hl, w_MOST_KINDS_HERE, lt]
  have n4 : ∀ st, m_need_number [(.d (.int (t))), (.d (.int (0))), (.d (.int (20)))] st = .ok (.d .none) st := fun st => by
    have e := fun st => r_is_wholeA (.int t) 0 20 st
    rw [show whB (.int t) 0 20 = true from decide_eq_true ht] at e
    unfold m_need_number d_need_number
    simp -implicitDefEqProofs [e]
  have tw2 : ∀ a b st, tupW [.d a, .d b] st = .ok (.d (.tuple [a, b])) st := fun a b st => rfl
  rcases r_pick_within (D := D) (t := t) hS.ok h8 (by omega) st with ⟨ps, e, hp, hn⟩ | ⟨e, A, hA, hf⟩
  · refine .inl ⟨ps, ?_, hp, hn, ?_⟩
    · have nn : isNone (pkD ps) = false := rfl
      generalize pkD ps = PD at *
      generalize stD L = SD at *
      generalize D.map PyData.int = DD at *
      unfold m_within d_within
      simp -implicitDefEqProofs [n1, n2, n4, n3, w_MOST_SHADE, e, nn, tw2]
    · unfold fewR
      rw [List.map_eq_nil_iff, List.filter_eq_nil_iff]
      intro A hA
      rw [pick_no_few hp hc0 hn ((mem_sub2 _ _).mp hA)]
      exact Bool.false_ne_true
  · have ne : fewR L D t ≠ [] := by
      unfold fewR
      intro z
      rw [List.map_eq_nil_iff, List.filter_eq_nil_iff] at z
      exact z A ((mem_sub2 _ _).mpr hA) hf
    obtain ⟨z, hz⟩ := leastOf_some ne
    refine .inr ⟨z, hz, ?_⟩
    have fp := fun st => r_few_places (L := L) (D := D) (t := t) (by omega) d8 hz st
    generalize PyData.tuple (z.2.items.map PyData.int) = ZI at *
    generalize stD L = SD at *
    generalize D.map PyData.int = DD at *
    unfold m_within d_within
    simp -implicitDefEqProofs [n1, n2, n4, n3, w_MOST_SHADE, e, fp, tw2]
end
end
section
variable [Tbl]
open PySem.W (Datum DatumOrd Tup)
/-! ## least_greatest -/
def fewN (L : Stk) (D : List Int) (t : Int) : Bool := (fewR L D t).isEmpty
def lgS (L : Stk) (D : List Int) : Option Nat := (List.range 21).find? fun t : Nat => fewN L D (t : Int)
theorem fewN_iff {L : Stk} {D : List Int} {t : Int} : fewN L D t = true ↔ ∀ A : List Nat, A.Sublist (List.range D.length) → fewB (nrL L D t) (cpS L) L.length A = false := by
  unfold fewN fewR
  rw [List.isEmpty_iff, List.map_eq_nil_iff, List.filter_eq_nil_iff]
  constructor
  · intro h A hA
    have := h A ((mem_sub2 _ _).mpr hA)
    rwa [Bool.not_eq_true] at this
  · intro h A hA
    rw [h A ((mem_sub2 _ _).mp hA)]
    exact Bool.false_ne_true
section
variable {L : Stk} {D : List Int}
theorem pw_none (hS : SOk L) (h8 : L.length ≤ 8) (hD : D.length ≤ 1000) (t : Int) (st : Sto) : ∃ X, m_pick_within [.d (stD L), .d (.tuple (D.map .int)), (.d (.int (t)))] st = .ok (.d X) st ∧ isNone X = !fewN L D t := by
  have hc0 : ∀ i, i < L.length → 0 ≤ cpS L i := fun i hi => by have := cp_ge hS hi; omega
  rcases r_pick_within (D := D) (t := t) hS h8 hD st with ⟨ps, e, hp, hn⟩ | ⟨e, A, hA, hf⟩
  · refine ⟨_, e, ?_⟩
    rw [fewN_iff.mpr fun A hA => pick_no_few hp hc0 hn hA]; rfl
  · refine ⟨_, e, ?_⟩
    cases q : fewN L D t with
    | false => rfl
    | true =>
      rw [fewN_iff.mp q A hA] at hf
      cases hf
theorem lg_l1 (hS : SOk L) (h8 : L.length ≤ 8) (hD : D.length ≤ 1000) (t : Nat) (st : Sto) :
    d_least_greatest_l1 [some (.d (stD L)), some (.d (.tuple (D.map .int))), some (.d (.int ((t : Int))))] st = seek (if fewN L D (t : Int) = true then some (.w (.d (.int ((t : Int))))) else none) [some (.d (stD L)), some (.d (.tuple (D.map .int))), none] st := by
  obtain ⟨X, e, hx⟩ := pw_none hS h8 hD (t : Int) st
  generalize fewN L D (t : Int) = b at *
  generalize stD L = SD at *
  generalize D.map PyData.int = DD at *
  unfold d_least_greatest_l1
  cases b
  · have hx : isNone X = true := hx
    simp -implicitDefEqProofs [e, hx]
  · have hx : isNone X = false := hx
    simp -implicitDefEqProofs [e, hx]
theorem seek_find (q : Nat → Bool) : ∀ R : List Nat, (R.findSome? fun t : Nat => if q t = true then some (Rt.w (.d (.int ((t : Int))))) else none) = (R.find? q).map fun t : Nat => Rt.w (.d (.int ((t : Int))))
  | [] => rfl
  | x :: R => by
    rw [List.findSome?_cons, List.find?_cons]
    cases h : q x with
    | true => rfl
    | false => exact seek_find q R
theorem r_least_greatest (hS : Sk L) (h8 : L.length ≤ 8) (hD : Dr D) (st : Sto) : m_least_greatest [.d (stD L), .d (.tuple (D.map .int))] st = .ok (.d (encO (lgS L D))) st := by
  have d8 := hD.l8
  have n1 := fun st => r_need_stockY hS st
  have n2 := fun st => r_need_drawingY hD st
  have hl := len_stk L
  have lt : ¬ (8 : Int) < (L.length : Int) := by omega
  have n3 : ∀ st, m_need_few [.d (stD L)] st = .ok (.d .none) st := fun st => by
    generalize stD L = SD at *
    unfold m_need_few d_need_few
    simp -implicitDefEqProofs [hl, w_MOST_KINDS_HERE, lt]
  have lp := forL_seek (g := gN 2) (b := d_least_greatest_l1) (env := [some (.d (stD L)), some (.d (.tuple (D.map .int))), none]) (st := st) (fun t : Nat => PyData.int (t : Int)) (fun t : Nat => if fewN L D (t : Int) = true then some (.w (.d (.int ((t : Int))))) else none) (List.range 21) fun t _ => ⟨_, rfl, lg_l1 hS.ok h8 (by omega) t st⟩
  rw [seek_find, ← rangeD0, show (List.range 21).find? (fun t : Nat => fewN L D (t : Int)) = lgS L D from rfl] at lp
  have rg : ∀ st, rg1W [(.d (.int (21)))] st = .ok ⟨rangeD 0 21, []⟩ st := fun st => by
    rw [rg1_ok (i := 21) st (by omega) (by omega)]; rfl
  have ad : addD (.int 20) (.int 1) = some (.int 21) := rfl
  generalize lgS L D = o at *
  generalize rangeD 0 21 = RD at *
  generalize stD L = SD at *
  generalize D.map PyData.int = DD at *
  unfold m_least_greatest d_least_greatest
  rcases o with _ | t
  · simp -implicitDefEqProofs [n1, n2, n3, w_MOST_SHADE, ad, rg, lp, encO, -forL_cons, -o_add_i]
  · simp -implicitDefEqProofs [n1, n2, n3, w_MOST_SHADE, ad, rg, lp, encO, -forL_cons, -o_add_i]
/-- within a miss of twenty all stones are near -/
theorem few20 (hS : Sk L) (hD : Dr D) (hc : (D.length : Int) ≤ capS L) : fewN L D 20 = true := by
  refine fewN_iff.mpr fun A hA => decide_eq_false ?_
  have hAl := hA.length_le
  rw [List.length_range] at hAl
  rcases A with _ | ⟨p, A⟩
  · intro h
    have h0 : 0 ≤ nrS (nrL L D 20) (cpS L) L.length [] := smI_nn fun i hi => by
      have := cp_ge hS.ok hi
      split <;> omega
    have h : nrS (nrL L D 20) (cpS L) L.length [] < 0 := h
    omega
  · have hp : p < D.length := List.mem_range.mp (hA.subset (by simp))
    have e : nrS (nrL L D 20) (cpS L) L.length (p :: A) = smI L.length (cpS L) := smI_congr fun i hi => by
      rw [if_pos]
      refine anyN_iff.mpr ⟨p, by simp, List.mem_filter.mpr ⟨List.mem_range.mpr hi, decide_eq_true ?_⟩⟩
      have sb : 0 ≤ shS L i ∧ shS L i ≤ 20 := by
        unfold shS
        rw [List.getD_eq_getElem?_getD, List.getElem?_eq_getElem hi]
        exact (hS.s _ (List.getElem_mem hi)).a
      have db : 0 ≤ D.getD p 0 ∧ D.getD p 0 ≤ 20 := by
        rw [List.getD_eq_getElem?_getD, List.getElem?_eq_getElem hp]
        exact hD.b _ (List.getElem_mem hp)
      unfold csS
      generalize shS L i = a at *
      generalize D.getD p 0 = b at *
      omega
    rw [e, cap_sm]
    omega
/-- too few stones: never -/
theorem few_all (hS : Sk L) (hc : capS L < (D.length : Int)) (t : Int) : fewN L D t = false := by
  rw [Bool.eq_false_iff]
  intro h
  have := fewN_iff.mp h (List.range D.length) (List.Sublist.refl _)
  have := of_decide_eq_false this
  rw [List.length_range] at this
  apply this
  have : nrS (nrL L D t) (cpS L) L.length (List.range D.length) ≤ smI L.length (cpS L) := smI_le fun i hi => by
    have := cp_ge hS.ok hi
    split <;> omega
  rw [cap_sm] at this
  omega
theorem lg_some (hS : Sk L) (hD : Dr D) (hc : (D.length : Int) ≤ capS L) : ∃ t : Nat, lgS L D = some t ∧ t ≤ 20 ∧ fewN L D (t : Int) = true ∧ ∀ u : Nat, u < t → fewN L D (u : Int) = false := by
  rcases e : lgS L D with _ | t
  · exfalso
    have := List.find?_eq_none.mp e 20 (by simp)
    exact this (few20 hS hD hc)
  · obtain ⟨h1, h2⟩ := List.find?_range_eq_some.mp e
    refine ⟨t, rfl, ?_, h1, fun u hu => ?_⟩
    · have := h2.1
      have := List.mem_range.mp this
      omega
    · have := h2.2 u hu
      simpa using this
theorem lg_none (hS : Sk L) (hc : capS L < (D.length : Int)) : lgS L D = none := by
  unfold lgS
  rw [List.find?_eq_none]
  intro t _
  rw [few_all hS hc]
  exact Bool.false_ne_true
end
end
section
variable [Tbl]
open PySem.W (Datum DatumOrd Tup)
/-! ## the law's own look at places -/
theorem sum_filter (f : Nat → Int) (q : Nat → Bool) : ∀ n : Nat, (((List.range n).filter q).map f).sum = smI n fun i => if q i = true then f i else 0
  | 0 => rfl
  | n + 1 => by
    rw [List.range_succ, List.filter_append, List.map_append, List.sum_append, sum_filter f q n, smI_succ, List.filter_cons]
    cases h : q n with
    | true => simp
    | false => simp
section
variable {L : Stk} {D : List Int} {t : Int}
theorem any_near {A : List Nat} {i : Nat} (hi : i < L.length) : (!decide ((A.filter fun p => decide (csS L D p i ≤ t)) = [])) = anyN (nrL L D t) A i := by
  rw [Bool.eq_iff_iff, Bool.not_eq_true', decide_eq_false_iff_not, anyN_iff, List.filter_eq_nil_iff]
  rw [show (¬ ∀ a, a ∈ A → ¬ decide (csS L D a i ≤ t) = true) ↔ ∃ p ∈ A, decide (csS L D p i ≤ t) = true by simp]
  constructor
  · rintro ⟨p, hp, h⟩
    exact ⟨p, hp, List.mem_filter.mpr ⟨List.mem_range.mpr hi, h⟩⟩
  · rintro ⟨p, hp, h⟩
    exact ⟨p, hp, (List.mem_filter.mp h).2⟩
theorem r_law_few (hL : L.length ≤ 1000) {A : List Nat} (hA : ∀ p ∈ A, p < D.length) (hl : A.length ≤ 1000) (st : Sto) : m__law_few [.d (stD L), .d (.tuple (D.map .int)), (.d (.int (t))), .d (pkD A)] st = .ok (.d (.bool (fewB (nrL L D t) (cpS L) L.length A))) st := by
  have hlen := len_stk L
  have rg : ∀ st, rg1W [(.d (.int ((L.length : Int))))] st = .ok ⟨rangeD 0 L.length, []⟩ st := fun st => by
    rw [rg1_ok (i := (L.length : Int)) st (by omega) (by omega)]; simp
  have rl : (rangeD 0 L.length).length ≤ 1000000 := by rw [rangeD_len]; omega
  have la : lenF [pkD A] = some (.int (A.length : Int)) := by
    show some (PyData.int ((natL A).length : Int)) = _
    unfold natL; rw [List.length_map]
  have sp : ∀ st, srcW (.d (pkD A)) st = .ok ⟨natL A, []⟩ st := fun st => rfl
  have nl : (natL A).length ≤ 1000000 := by unfold natL; rw [List.length_map]; omega
  have f1 := lcL_filterE (g := gN 6) (t := tBl (eOp2 neD (eLc (cSeq (eVar 3)) (gN 7) (tBl (eOp2 leD (eCall m__law_cost (aCons (eVar 0) (aCons (eVar 1) (aCons (eVar 7) (aCons (eVar 6) aNil))))) (eVar 2))) (eVar 7) [5, 7]) (eLst aNil))) (c := eVar 6) (env := [some (.d (stD L)), some (.d (.tuple (D.map .int))), some (.d (.int (t))), some (.d (pkD A)), none, none, none, none]) (st := st) (fun i : Nat => PyData.int (i : Int)) (fun i : Nat => PyData.int (i : Int)) (fun i => anyN (nrL L D t) A i) (List.range L.length) [] fun i hi => ⟨_, rfl, by
    have hi := List.mem_range.mp hi
    have f2 := lcL_filterE (g := gN 7) (t := tBl (eOp2 leD (eCall m__law_cost (aCons (eVar 0) (aCons (eVar 1) (aCons (eVar 7) (aCons (eVar 6) aNil))))) (eVar 2))) (c := eVar 7) (env := [some (.d (stD L)), some (.d (.tuple (D.map .int))), some (.d (.int (t))), some (.d (pkD A)), none, none, some (.d (.int ((i : Int)))), none]) (st := st) (fun p : Nat => PyData.int (p : Int)) (fun p : Nat => PyData.int (p : Int)) (fun p => decide (csS L D p i ≤ t)) A [] fun p hp => ⟨_, rfl, by
      have c := fun st => r_law_cost (L := L) (D := D) hi (hA p hp) st
      generalize csS L D p i = CC at *
      generalize stD L = SD at *
      generalize D.map PyData.int = DD at *
      generalize pkD A = PA at *
      simp -implicitDefEqProofs [c], fun _ => by simp⟩
    rw [List.nil_append] at f2
    have f2 : lcL (gN 7) (tBl (eOp2 leD (eCall m__law_cost (aCons (eVar 0) (aCons (eVar 1) (aCons (eVar 7) (aCons (eVar 6) aNil))))) (eVar 2))) (eVar 7) [] [some (.d (stD L)), some (.d (.tuple (D.map .int))), some (.d (.int (t))), some (.d (pkD A)), none, none, some (.d (.int ((i : Int)))), none] (natL A) [] st = .ok (natL (A.filter fun p => decide (csS L D p i ≤ t))) st := f2
    have ne : neD (.list (natL (A.filter fun p => decide (csS L D p i ≤ t)))) (.list []) = some (.bool (anyN (nrL L D t) A i)) := by
      have := q_ne ((A.filter fun p => decide (csS L D p i ≤ t)).map fun n : Nat => (n : Int)) []
      rw [show (decide ((A.filter fun p => decide (csS L D p i ≤ t)).map (fun n : Nat => (n : Int)) = [])) = decide ((A.filter fun p => decide (csS L D p i ≤ t)) = []) by
        rw [decide_eq_decide, List.map_eq_nil_iff], any_near hi] at this
      rw [show (Datum.toD ((A.filter fun p => decide (csS L D p i ≤ t)).map fun n : Nat => (n : Int)) : PyData) = .list (natL (A.filter fun p => decide (csS L D p i ≤ t))) by
        show PyData.list _ = PyData.list _
        congr 1
        unfold natL
        rw [List.map_map]; rfl] at this
      exact this
    have lw0 : ∀ st, lstW [] st = .ok (.d (.list [])) st := fun st => rfl
    generalize anyN (nrL L D t) A i = b at *
    generalize natL (A.filter fun p => decide (csS L D p i ≤ t)) = NF at *
    generalize natL A = NA at *
    generalize pkD A = PA at *
    generalize stD L = SD at *
    generalize D.map PyData.int = DD at *
    simp -implicitDefEqProofs [sp, nl, wipeE, f2, lw0, ne], fun _ => by simp⟩
  rw [List.nil_append, ← rangeD0] at f1
  have f3 := lcL_mapE (g := gN 6) (c := eOp2 ixD (eOp2 ixD (eVar 0) (eVar 6)) (eK (.int 3))) (env := [some (.d (stD L)), some (.d (.tuple (D.map .int))), some (.d (.int (t))), some (.d (pkD A)), some (.d (.list (((List.range L.length).filter fun i => anyN (nrL L D t) A i).map fun i : Nat => PyData.int (i : Int)))), none, none, none]) (st := st) (fun i : Nat => PyData.int (i : Int)) (fun i : Nat => .int (cpS L i)) ((List.range L.length).filter fun i => anyN (nrL L D t) A i) [] fun i hi => ⟨_, rfl, by
    have hi := List.mem_range.mp (List.mem_filter.mp hi).1
    have x1 := ix_stk hi
    have x3 := ix_kd3 L i
    generalize eKd (L.getD i ((0, 0, 0), 0)) = EK at *
    generalize cpS L i = CP at *
    generalize stD L = SD at *
    simp -implicitDefEqProofs [x1, x3]⟩
  rw [List.nil_append, show (((List.range L.length).filter fun i => anyN (nrL L D t) A i).map fun i : Nat => PyData.int (cpS L i)) = (((List.range L.length).filter fun i => anyN (nrL L D t) A i).map (cpS L)).map .int by rw [List.map_map]; rfl] at f3
  have sm := o_sum_l (((List.range L.length).filter fun i => anyN (nrL L D t) A i).map (cpS L))
  rw [sum_filter (cpS L) (fun i => anyN (nrL L D t) A i), show (smI L.length fun i => if anyN (nrL L D t) A i = true then cpS L i else 0) = nrS (nrL L D t) (cpS L) L.length A from rfl] at sm
  have sd : ∀ xs st, srcW (.d (.list xs)) st = .ok ⟨xs, []⟩ st := fun xs st => rfl
  have fl : (((List.range L.length).filter fun i => anyN (nrL L D t) A i).map fun i : Nat => PyData.int (i : Int)).length ≤ 1000000 := by
    rw [List.length_map]
    have := List.length_filter_le (fun i => anyN (nrL L D t) A i) (List.range L.length)
    rw [List.length_range] at this
    omega
  have fb : fewB (nrL L D t) (cpS L) L.length A = decide (nrS (nrL L D t) (cpS L) L.length A < (A.length : Int)) := rfl
  rw [fb]
  generalize nrS (nrL L D t) (cpS L) L.length A = NS at *
  generalize (((List.range L.length).filter fun i => anyN (nrL L D t) A i).map (cpS L)).map PyData.int = CL at *
  generalize ((List.range L.length).filter fun i => anyN (nrL L D t) A i).map (fun i : Nat => PyData.int (i : Int)) = FL at *
  generalize rangeD 0 L.length = RD at *
  generalize natL A = NA at *
  generalize pkD A = PA at *
  generalize (A.length : Int) = AL at *
  generalize (L.length : Int) = NL at *
  generalize stD L = SD at *
  generalize D.map PyData.int = DD at *
  unfold m__law_few d__law_few
  simp -implicitDefEqProofs [hlen, rg, rl, wipeE, f1, sd, fl, f3, sm, la]
theorem lfp_l1 {k : Nat} (hk : k < 8) (v0 v1 v2 : Option Wv) (st : Sto) :
    d__law_fewest_places_l1 [v0, v1, v2, some (.d (.list ((sub2 k).map pkD))), some (.d (.int ((k : Int)))), none, none, none] st = .nx [v0, v1, v2, some (.d (.list ((sub2 (k + 1)).map pkD))), none, none, none, none] st := by
  have lc := few_l1 (g := gN 7) (k := k) (env := fun k d => [v0, v1, v2, some (.d d), some (.d (.int ((k : Int)))), none, none, none]) st (by omega) (eOp2 addD (eVar 7) (eTup (aCons (eVar 4) aNil))) fun A hA => ⟨_, rfl, by
    have tw1 : ∀ a st, tupW [.d a] st = .ok (.d (.tuple [a])) st := fun a st => rfl
    have ad := add_pk k (A := A) (by have := (sub2_in hA).2; omega)
    generalize (sub2 k).map pkD = X at *
    generalize pkD A = PA at *
    generalize pkD (A ++ [k]) = PB at *
    simp -implicitDefEqProofs [tw1, ad]⟩
  have ad := add_sub hk
  have sd : ∀ xs st, srcW (.d (.list xs)) st = .ok ⟨xs, []⟩ st := fun xs st => rfl
  have hl : ((sub2 k).map pkD).length ≤ 1000000 := by rw [List.length_map]; have := sub2_le (show k ≤ 8 by omega); omega
  generalize (sub2 (k + 1)).map pkD = X2 at *
  generalize ((sub2 k).map fun A => A ++ [k]).map pkD = X1 at *
  generalize (sub2 k).map pkD = X0 at *
  unfold d__law_fewest_places_l1
  simp -implicitDefEqProofs [sd, hl, wipeE, lc, ad]
/-- the first in order is the least -/
theorem srt_least (X : List (Int × Tup Int)) : sortT false Datum.toD X = [] ∧ X = [] ∨ ∃ z r, sortT false Datum.toD X = z :: r ∧ leastOf X = some z := by
  rcases e : sortT false Datum.toD X with _ | ⟨z, r⟩
  · refine .inl ⟨rfl, ?_⟩
    have := sortT_len false Datum.toD X
    rw [e] at this
    exact List.eq_nil_of_length_eq_zero this.symm
  · refine .inr ⟨z, r, rfl, least_of ((sortT_mem (b := false) (enc := Datum.toD)).mp (by rw [e]; simp)) fun y hy => ?_⟩
    have dle : ∀ a b : Int × Tup Int, PySem.W.dataLe false Datum.toD a b = !DatumOrd.lt b a := fun a b => by
      show (!PySem.W.dataLt (Datum.toD b) (Datum.toD a)) = _
      rw [DatumOrd.lt_eq]
    have pw := List.pairwise_mergeSort (le := PySem.W.dataLe false (Datum.toD (α := Int × Tup Int))) (fun a b c h1 h2 => by
      rw [dle] at *
      rw [Bool.not_eq_true'] at *
      cases q : DatumOrd.lt c a with
      | false => rfl
      | true =>
        by_cases e2 : b = a
        · subst e2; rw [h2] at q; cases q
        · rcases TotLt.tot b a e2 with z | z
          · rw [z] at h1; cases h1
          · rw [TotLt.tr _ _ _ q z] at h2; cases h2) (fun a b => by
      rw [dle, dle]
      by_cases e2 : a = b
      · subst e2; rw [TotLt.irr]; rfl
      · cases q : DatumOrd.lt b a with
        | false => rfl
        | true =>
          cases q2 : DatumOrd.lt a b with
          | false => rfl
          | true => have := TotLt.tr _ _ _ q q2; rw [TotLt.irr] at this; cases this) X
    have e' : X.mergeSort (PySem.W.dataLe false Datum.toD) = z :: r := e
    rw [e'] at pw
    have hm := (sortT_mem (b := false) (enc := Datum.toD)).mpr hy
    rw [e] at hm
    rcases List.mem_cons.mp hm with rfl | hm
    · exact TotLt.irr _
    · have := (List.pairwise_cons.mp pw).1 y hm
      rw [dle, Bool.not_eq_true'] at this
      exact this
def fpD (L : Stk) (D : List Int) (t : Int) : PyData := match leastOf (fewR L D t) with
  | some z => .tuple (z.2.items.map .int)
  | none => .none
theorem r_law_fewest (hL : L.length ≤ 1000) (h8 : D.length ≤ 8) (st : Sto) : m__law_fewest_places [.d (stD L), .d (.tuple (D.map .int)), (.d (.int (t)))] st = .ok (.d (fpD L D t)) st := by
  have lp := forL_at (g := gN 4) (b := d__law_fewest_places_l1) (fun k => [some (.d (stD L)), some (.d (.tuple (D.map .int))), some (.d (.int (t))), some (.d (.list ((sub2 k).map pkD))), none, none, none, none]) (fun _ => st) (rangeD 0 D.length) fun i x hx => by
    obtain ⟨hi, rfl⟩ := rangeD_get hx
    rw [show (0 : Int) + (i : Nat) = (i : Int) by omega]
    exact ⟨_, rfl, lfp_l1 (by omega) _ _ _ st⟩
  rw [rangeD_len] at lp
  have hl := sub2_le h8
  have f1 := lcL_filterE (g := gN 7) (t := tTru (eCall m__law_few (aCons (eVar 0) (aCons (eVar 1) (aCons (eVar 2) (aCons (eVar 7) aNil)))))) (c := eTup (aCons (eOpN lenF (aCons (eVar 7) aNil)) (aCons (eVar 7) aNil))) (env := [some (.d (stD L)), some (.d (.tuple (D.map .int))), some (.d (.int (t))), some (.d (.list ((sub2 D.length).map pkD))), none, none, none, none]) (st := st) pkD (fun A => Datum.toD (kyA A)) (fun A => fewB (nrL L D t) (cpS L) L.length A) (sub2 D.length) [] fun A hA => ⟨_, rfl, by
    have e := fun st => r_law_few (L := L) (D := D) (t := t) hL (sub2_in hA).1 (by have := (sub2_in hA).2; omega) st
    generalize fewB (nrL L D t) (cpS L) L.length A = b at *
    generalize (sub2 D.length).map pkD = X at *
    generalize pkD A = PA at *
    generalize stD L = SD at *
    generalize D.map PyData.int = DD at *
    simp -implicitDefEqProofs [e], fun _ => by
    have la : lenF [pkD A] = some (.int (A.length : Int)) := by
      show some (PyData.int ((natL A).length : Int)) = _
      unfold natL; rw [List.length_map]
    have tw2 : ∀ a b st, tupW [.d a, .d b] st = .ok (.d (.tuple [a, b])) st := fun a b st => rfl
    rw [toD_ky]
    generalize (sub2 D.length).map pkD = X at *
    generalize pkD A = PA at *
    generalize stD L = SD at *
    generalize D.map PyData.int = DD at *
    simp -implicitDefEqProofs [la, tw2]⟩
  rw [List.nil_append, show (((sub2 D.length).filter fun A => fewB (nrL L D t) (cpS L) L.length A).map fun A => (Datum.toD (kyA A) : PyData)) = (fewR L D t).map Datum.toD by unfold fewR; rw [List.map_map]; rfl] at f1
  have fl : (fewR L D t).length ≤ 1000000 := by
    unfold fewR
    rw [List.length_map]
    have := List.length_filter_le (fun A => fewB (nrL L D t) (cpS L) L.length A) (sub2 D.length)
    omega
  have sr := srtF_of (q_srt_pairs (b := false) (fewR L D t) fl)
  have l1 : ((sub2 D.length).map pkD).length ≤ 1000000 := by rw [List.length_map]; omega
  have hdr := len_dr D
  have rg : ∀ st, rg1W [(.d (.int ((D.length : Int))))] st = .ok ⟨rangeD 0 D.length, []⟩ st := fun st => by
    rw [rg1_ok (i := (D.length : Int)) st (by omega) (by omega)]; simp
  have lw : ∀ st, lstW [.d (.tuple [])] st = .ok (.d (.list ((sub2 0).map pkD))) st := fun st => rfl
  have lw0 : ∀ st, lstW [] st = .ok (.d (.list [])) st := fun st => rfl
  have tw0 : ∀ st, tupW [] st = .ok (.d (.tuple [])) st := fun st => rfl
  have sd : ∀ xs st, srcW (.d (.list xs)) st = .ok ⟨xs, []⟩ st := fun xs st => rfl
  have ne := q_ne (sortT false Datum.toD (fewR L D t)) []
  rcases srt_least (fewR L D t) with ⟨e1, e2⟩ | ⟨z, r, e1, e2⟩
  · rw [e1] at sr ne
    have ne : neD (.list (([] : List (Int × Tup Int)).map Datum.toD)) (.list []) = some (.bool false) := ne
    have fe : fpD L D t = .none := by unfold fpD; rw [e2]; rfl
    rw [fe]
    generalize ([] : List (Int × Tup Int)).map Datum.toD = E0 at *
    generalize (fewR L D t).map Datum.toD = FR at *
    generalize (sub2 D.length).map pkD = X at *
    generalize (sub2 0).map pkD = X0 at *
    generalize rangeD 0 D.length = RD at *
    generalize (D.length : Int) = N at *
    generalize stD L = SD at *
    generalize D.map PyData.int = DD at *
    unfold m__law_fewest_places d__law_fewest_places
    simp -implicitDefEqProofs [tw0, lw, hdr, rg, lp, sd, l1, wipeE, f1, sr, lw0, ne, -forL_cons]
  · rw [e1] at sr ne
    have ne : neD (.list ((z :: r).map Datum.toD)) (.list []) = some (.bool true) := ne
    have fe : fpD L D t = .tuple (z.2.items.map .int) := by unfold fpD; rw [e2]
    rw [fe]
    have x0 : ixD (.list ((z :: r).map Datum.toD)) (.int 0) = some (Datum.toD z) := by
      show atD ((z :: r).map Datum.toD) ((0 : Nat) : Int) = _
      rw [atD_nat]; rfl
    have x1 : ixD (Datum.toD z) (.int 1) = some (.tuple (z.2.items.map .int)) := rfl
    generalize (Datum.toD z : PyData) = TZ at *
    generalize (z :: r).map Datum.toD = E0 at *
    generalize (fewR L D t).map Datum.toD = FR at *
    generalize (sub2 D.length).map pkD = X at *
    generalize (sub2 0).map pkD = X0 at *
    generalize rangeD 0 D.length = RD at *
    generalize (D.length : Int) = N at *
    generalize stD L = SD at *
    generalize D.map PyData.int = DD at *
    generalize PyData.tuple (z.2.items.map PyData.int) = ZI at *
    unfold m__law_fewest_places d__law_fewest_places
    simp -implicitDefEqProofs [tw0, lw, hdr, rg, lp, sd, l1, wipeE, f1, sr, lw0, ne, x0, x1, -forL_cons]
end
end
section
variable [Tbl]
open PySem.W (Datum DatumOrd Tup)
/-! ## the law -/
theorem fpD_none {L : Stk} {D : List Int} {t : Int} : isNone (fpD L D t) = fewN L D t := by
  unfold fpD fewN
  rcases e : fewR L D t with _ | ⟨x, r⟩
  · rfl
  · rfl
theorem few_items {L : Stk} {D : List Int} {t : Int} {z : Int × Tup Int} (hz : leastOf (fewR L D t) = some z) : ∃ A : List Nat, z = kyA A ∧ A ∈ sub2 D.length ∧ fewB (nrL L D t) (cpS L) L.length A = true := by
  have hm := leastOf_mem hz
  unfold fewR at hm
  obtain ⟨A, hA, rfl⟩ := List.mem_map.mp hm
  rw [List.mem_filter] at hA
  exact ⟨A, rfl, hA.1, hA.2⟩
theorem mx_le {t : Int} : ∀ (xs : List Int) (x : Int), (∀ y ∈ x :: xs, y ≤ t) → mxI x xs ≤ t := fun xs x h => h _ (mxI_mem xs x)
theorem r1_turn {L : Stk} {D : List Int} {t : Int} (hS : Sk L) (h8 : L.length ≤ 8) (hD : Dr D) (ht : 0 ≤ t ∧ t ≤ 20) (v4 : Option Wv) (st : Sto) :
    d__law_right_l1 [some (.d (stD L)), some (.d (.tuple (D.map .int))), some (.d (.int (t))), some (.d (fpD L D t)), v4, none, none, none, none] st = .nx [some (.d (stD L)), some (.d (.tuple (D.map .int))), some (.d (.int (t))), some (.d (fpD L D t)), none, none, none, none, none] st := by
  have d8 := hD.l8
  have d1 := hD.l1
  rcases r_within hS h8 hD ht st with ⟨ps, e, hp, hn, hf⟩ | ⟨z, hz, e⟩
  · have fe : fpD L D t = .none := by unfold fpD; rw [hf]; rfl
    rw [fe]
    have ip := fun st => r_law_is_pickA L D (pkD ps) (by omega) (by omega) st
    rw [isPk_pk ⟨hp.l, hp.b, hp.c⟩] at ip
    have hpl := hp.l
    have f4 := lcL_mapE (g := gTp (gCn (gN 7) (gCn (gN 8) gNl))) (c := eCall m__law_cost (aCons (eVar 0) (aCons (eVar 1) (aCons (eVar 7) (aCons (eVar 8) aNil))))) (env := [some (.d (stD L)), some (.d (.tuple (D.map .int))), some (.d (.int (t))), some (.d .none), v4, some (.d (.tuple [.str "pick", pkD ps])), none, none, none]) (st := st) (fun p : Nat => PyData.tuple [.int (p : Int), .int ((ps.getD p 0 : Nat) : Int)]) (fun p : Nat => .int (csS L D p (ps.getD p 0))) (List.range ps.length) [] fun p hp' => ⟨_, rfl, by
      have hp' := List.mem_range.mp hp'
      have c := fun st => r_law_cost (L := L) (D := D) (hp.b _ (getD_mem hp')) (show p < D.length by omega) st
      generalize csS L D p (ps.getD p 0) = CC at *
      generalize ps.getD p 0 = kp at *
      generalize stD L = SD at *
      generalize D.map PyData.int = DD at *
      generalize pkD ps = PD at *
      simp -implicitDefEqProofs [c]⟩
    have en : ∀ st, enumW [.d (pkD ps)] st = .ok ⟨enumD (natL ps), []⟩ st := fun st => rfl
    have enp : enumD (natL ps) = (List.range ps.length).map fun p : Nat => PyData.tuple [.int (p : Int), .int ((ps.getD p 0 : Nat) : Int)] := by
      unfold enumD natL
      apply List.ext_getElem
      · simp
      · intro i h1 h2
        simp at h1
        simp [h1]
    rw [List.nil_append, ← enp] at f4
    have h4 : (enumD (natL ps)).length ≤ 1000000 := by rw [enp]; simp; omega
    obtain ⟨c0, cs, ec, hc⟩ : ∃ c0 cs, ((List.range ps.length).map fun p : Nat => PyData.int (csS L D p (ps.getD p 0))) = (c0 :: cs).map .int ∧ ∀ y ∈ c0 :: cs, y ≤ t := by
      obtain ⟨n, hn'⟩ : ∃ n, ps.length = n + 1 := ⟨ps.length - 1, by omega⟩
      refine ⟨csS L D 0 (ps.getD 0 0), ((List.range n).map Nat.succ).map fun p => csS L D p (ps.getD p 0), ?_, fun y hy => ?_⟩
      · rw [hn', List.range_succ_eq_map, List.map_cons, List.map_cons, List.map_map, List.map_map, List.map_map]; rfl
      · have : y ∈ (List.range ps.length).map fun p : Nat => csS L D p (ps.getD p 0) := by
          rw [hn', List.range_succ_eq_map, List.map_cons]; exact hy
        obtain ⟨p, hp', rfl⟩ := List.mem_map.mp this
        have := hn p (by have := List.mem_range.mp hp'; omega)
        exact of_decide_eq_true (List.mem_filter.mp this).2
    rw [ec] at f4
    have mx := o_max_ints c0 cs
    have le := mx_le cs c0 hc
    have i0 : ixD (.tuple [.str "pick", pkD ps]) (.int 0) = some (.str "pick") := rfl
    have i1 : ixD (.tuple [.str "pick", pkD ps]) (.int 1) = some (pkD ps) := rfl
    have l2 : lenF [.tuple [.str "pick", pkD ps]] = some (.int 2) := rfl
    have it : isaD "tuple" (.tuple [.str "pick", pkD ps]) = some (.bool true) := rfl
    have sq : neD (.str "pick") (.str "pick") = some (.bool false) := rfl
    have ng : ¬ t < mxI c0 cs := by omega
    generalize (c0 :: cs).map PyData.int = CS at *
    generalize mxI c0 cs = MX at *
    generalize enumD (natL ps) = EN at *
    generalize PyData.tuple [.str "pick", pkD ps] = PT at *
    generalize pkD ps = PD at *
    generalize stD L = SD at *
    generalize D.map PyData.int = DD at *
    unfold d__law_right_l1
    simp -implicitDefEqProofs [e, it, l2, i0, sq, i1, ip, en, h4, wipeE, f4, mx, ng, -o_max_ints]
  · have fe : fpD L D t = .tuple (z.2.items.map .int) := by unfold fpD; rw [hz]
    rw [fe]
    obtain ⟨A, rfl, hA, _⟩ := few_items hz
    have hA2 := sub2_in hA
    have nn : isNone (.tuple ((kyA A).2.items.map .int)) = false := rfl
    have tw2 : ∀ a b st, tupW [.d a, .d b] st = .ok (.d (.tuple [a, b])) st := fun a b st => rfl
    have fd : Fd 2 3000 (.tuple [.str "few", .tuple ((kyA A).2.items.map .int)]) := by
      have f1 : Fd 1 400 (.tuple ((kyA A).2.items.map .int)) := (fd_tup (k := 0) (n := 41) 8 (fun x hx => by
        obtain ⟨n, hn, rfl⟩ := List.mem_map.mp hx
        obtain ⟨m, hm, rfl⟩ := List.mem_map.mp (show n ∈ A.map fun n : Nat => (n : Int) from hn)
        have := hA2.1 m hm
        exact fd_int (by omega)) (by
          rw [List.length_map]
          show (A.map fun n : Nat => (n : Int)).length ≤ 8
          rw [List.length_map]; omega)).up (by decide) (by decide)
      have f0 : Fd 1 400 (.str "few") := ⟨rfl, rfl, by decide, by decide +kernel⟩
      exact (fd_tup (k := 1) (n := 400) 2 (fun x hx => by
        simp only [List.mem_cons, List.not_mem_nil, or_false] at hx
        rcases hx with rfl | rfl
        · exact f0
        · exact f1) (Nat.le_refl _)).up (by decide) (by decide)
    have r1 := o_repr fd (by decide) (by decide)
    have n1 := ne_self r1
    generalize (PyData.tuple [.str "few", .tuple ((kyA A).2.items.map .int)]).shown = SH at *
    generalize PyData.tuple ((kyA A).2.items.map PyData.int) = ZI at *
    generalize stD L = SD at *
    generalize D.map PyData.int = DD at *
    unfold d__law_right_l1
    simp -implicitDefEqProofs [e, nn, tw2, r1, n1]
theorem r_law_right {L : Stk} {D : List Int} {t : Int} (hS : Sk L) (h8 : L.length ≤ 8) (hD : Dr D) (ht : 0 ≤ t ∧ t ≤ 20) (st : Sto) : m__law_right [.d (stD L), .d (.tuple (D.map .int)), (.d (.int (t)))] st = .ok (.d (.bool true)) st := by
  have d8 := hD.l8
  have e1 := fun st => r_law_fewest (L := L) (D := D) (t := t) (by omega) d8 st
  have lp := (forL_fold (g := gN 4) (b := d__law_right_l1) (fun i : Nat => PyData.int (i : Int)) (fun _ : Unit => [some (.d (stD L)), some (.d (.tuple (D.map .int))), some (.d (.int (t))), some (.d (fpD L D t)), none, none, none, none, none]) (fun _ : Unit => st) (fun _ _ => ()) (fun _ => True) (List.range 2) (fun _ i _ _ => ⟨_, rfl, r1_turn hS h8 hD ht _ st, trivial⟩) () trivial).1
  rw [← rangeD0] at lp
  have rg : ∀ st, rg1W [(.d (.int (2)))] st = .ok ⟨rangeD 0 2, []⟩ st := fun st => by
    rw [rg1_ok (i := 2) st (by omega) (by omega)]; rfl
  generalize fpD L D t = FP at *
  generalize rangeD 0 2 = RD at *
  generalize stD L = SD at *
  generalize D.map PyData.int = DD at *
  unfold m__law_right d__law_right
  simp -implicitDefEqProofs [e1, rg, lp, -forL_cons]
theorem head_filter (q : Nat → Bool) : ∀ R : List Nat, ∀ t, R.find? q = some t → atD (((R.filter q).map fun n : Nat => PyData.int (n : Int))) 0 = some (.int (t : Int))
  | x :: R, t, h => by
    rw [List.find?_cons] at h
    rw [List.filter_cons]
    cases hq : q x with
    | true => rw [hq] at h; cases h; rw [if_pos rfl]; exact atD_0 _ _
    | false => rw [hq] at h; rw [if_neg Bool.false_ne_true]; exact head_filter q R t h
theorem l1_turn (sc : Wv) (c : Int) (st : Sto) : ∃ st', d_law_l1 (some sc :: some (.d (.int c)) :: List.replicate 9 none) st = .nx (some sc :: List.replicate 10 none) st' := by
  obtain ⟨x1, x2, x3, e1⟩ := r_pen_of c st
  have h1 : Pen st.length (st ++ [.lst [.int x1, .int x2, .int x3]]) := ⟨x1, x2, x3, get_mid st [] _⟩
  obtain ⟨L, s1, e2, hS, lL, bL, c1⟩ := r_law_small h1 (n := 8) ⟨by decide, by decide⟩
  obtain ⟨D, s2, e3, hD, c2⟩ := r_law_drawing c1.pen
  obtain ⟨u, s3, e4, a4, b4, c3⟩ := r_draw 21 c2.pen (by decide) (by decide)
  obtain ⟨v, s4, e5, a5, b5, c4⟩ := r_draw 5 c3.pen (by decide) (by decide)
  have h8 : L.length ≤ 8 := by omega
  have d8 := hD.l8
  have sd : ∀ st, srcW (.d (stD L)) st = .ok ⟨L.map eKd, []⟩ st := fun st => rfl
  have h3 : (L.map eKd).length ≤ 1000000 := by rw [List.length_map]; omega
  have cl := cap_l L 8 [some sc, some (.d (.int (c))), some (.r st.length), some (.d (stD L)), some (.d (.tuple (D.map .int))), some (.d .none), none, none, none, none, none] s2 fun x => ⟨_, rfl, rfl⟩
  have sm : sumF [.list ((L.map (·.2)).map .int)] = some (.int (capS L)) := o_sum_l (L.map (·.2))
  have hdr := len_dr D
  have lg := fun st => r_least_greatest hS h8 hD st
  -- twice the least
  have f2 : ∀ (w5 : Option Wv), lcL (gN 10) tYs (eCall m_least_greatest (aCons (eVar 3) (aCons (eVar 4) aNil))) [] [some sc, some (.d (.int (c))), some (.r st.length), some (.d (stD L)), some (.d (.tuple (D.map .int))), w5, none, none, none, none, none] (rangeD 0 2) [] s2 = .ok [encO (lgS L D), encO (lgS L D)] s2 := fun w5 => by
    have := lcL_map (g := gN 10) (c := eCall m_least_greatest (aCons (eVar 3) (aCons (eVar 4) aNil))) (env := [some sc, some (.d (.int (c))), some (.r st.length), some (.d (stD L)), some (.d (.tuple (D.map .int))), w5, none, none, none, none, none]) (st := s2) (f := fun _ => encO (lgS L D)) (rangeD 0 2) [] fun d _ => ⟨_, rfl, by
      generalize encO (lgS L D) = EO at *
      generalize stD L = SD at *
      generalize D.map PyData.int = DD at *
      simp -implicitDefEqProofs [lg]⟩
    exact this
  have rg : ∀ (n : Nat), n ≤ 30 → ∀ st, rg1W [(.d (.int ((n : Int))))] st = .ok ⟨rangeD 0 n, []⟩ st := fun n hn st => by
    rw [rg1_ok (i := (n : Int)) st (by omega) (by omega)]; simp
  have rg2 : ∀ st, rg1W [(.d (.int (2)))] st = .ok ⟨rangeD 0 2, []⟩ st := rg 2 (by decide)
  have rg21 : ∀ st, rg1W [(.d (.int (21)))] st = .ok ⟨rangeD 0 21, []⟩ st := rg 21 (by decide)
  have rl2 : (rangeD 0 2).length ≤ 1000000 := by rw [rangeD_len]; omega
  have rl21 : (rangeD 0 21).length ≤ 1000000 := by rw [rangeD_len]; omega
  have tw2 : ∀ a b st, tupW [.d a, .d b] st = .ok (.d (.tuple [a, b])) st := fun a b st => rfl
  have lw2 : ∀ a b st, lstW [.d a, .d b] st = .ok (.d (.list [a, b])) st := fun a b st => rfl
  have lw3 : ∀ a b c st, lstW [.d a, .d b, .d c] st = .ok (.d (.list [a, b, c])) st := fun a b c st => rfl
  have lw4 : ∀ a b c d st, lstW [.d a, .d b, .d c, .d d] st = .ok (.d (.list [a, b, c, d])) st := fun a b c d st => rfl
  have sl : ∀ xs st, srcW (.d (.list xs)) st = .ok ⟨xs, []⟩ st := fun xs st => rfl
  have all_ok : ∀ (ts : List Int) (w5 w6 : Option Wv), (∀ t ∈ ts, 0 ≤ t ∧ t ≤ 20) → lcL (gN 9) tYs (eCall m__law_right (aCons (eVar 3) (aCons (eVar 4) (aCons (eVar 9) aNil)))) [] [some sc, some (.d (.int (c))), some (.r st.length), some (.d (stD L)), some (.d (.tuple (D.map .int))), w5, w6, none, none, none, none] (ts.map .int) [] s4 = .ok (ts.map fun _ => .bool true) s4 := fun ts w5 w6 hts => by
    have := lcL_mapE (g := gN 9) (c := eCall m__law_right (aCons (eVar 3) (aCons (eVar 4) (aCons (eVar 9) aNil)))) (env := [some sc, some (.d (.int (c))), some (.r st.length), some (.d (stD L)), some (.d (.tuple (D.map .int))), w5, w6, none, none, none, none]) (st := s4) PyData.int (fun _ => .bool true) ts [] fun t ht => ⟨_, rfl, by
      have e := fun st => r_law_right hS h8 hD (hts t ht) st
      generalize stD L = SD at *
      generalize D.map PyData.int = DD at *
      simp -implicitDefEqProofs [e]⟩
    rw [List.nil_append] at this
    exact this
  have al : ∀ ts : List Int, allF [.list (ts.map fun _ => .bool true)] = some (.bool true) := fun ts => by
    have := o_all' ts fun _ => true
    rw [this]
    congr 2
    rw [List.all_eq_true]
    exact fun _ _ => rfl
  refine ⟨s4, ?_⟩
  by_cases z : capS L < (D.length : Int)
  · have ln := lg_none hS z
    rw [ln] at f2
    have f2 : ∀ (w5 : Option Wv), lcL (gN 10) tYs (eCall m_least_greatest (aCons (eVar 3) (aCons (eVar 4) aNil))) [] [some sc, some (.d (.int (c))), some (.r st.length), some (.d (stD L)), some (.d (.tuple (D.map .int))), w5, none, none, none, none, none] (rangeD 0 2) [] s2 = .ok [.none, .none] s2 := f2
    have z2 : ¬ (D.length : Int) ≤ capS L := by omega
    have r1 := o_repr (fd_lst (k := 0) (n := 41) 2 (xs := [.none, .none]) (fun x hx => by
      simp only [List.mem_cons, List.not_mem_nil, or_false] at hx
      rcases hx with rfl | rfl <;> exact fd_none.up (Nat.le_refl _) (by decide)) (Nat.le_refl _)) (by decide) (by decide)
    have n1 := ne_self r1
    have ac := all_ok [0, 20, u, v] (some (.d .none)) (some (.d (.list [.int 0, .int 20, .int u, .int v]))) (fun t ht => by
      simp only [List.mem_cons, List.not_mem_nil, or_false] at ht
      rcases ht with rfl | rfl | rfl | rfl <;> omega)
    have al := al [0, 20, u, v]
    have ac : lcL (gN 9) tYs (eCall m__law_right (aCons (eVar 3) (aCons (eVar 4) (aCons (eVar 9) aNil)))) [] [some sc, some (.d (.int (c))), some (.r st.length), some (.d (stD L)), some (.d (.tuple (D.map .int))), some (.d .none), some (.d (.list [.int 0, .int 20, .int u, .int v])), none, none, none, none] [.int 0, .int 20, .int u, .int v] [] s4 = .ok ([0, 20, u, v].map fun _ => .bool true) s4 := ac
    have l4 : [PyData.int 0, .int 20, .int u, .int v].length ≤ 1000000 := Nat.le_of_ble_eq_true rfl
    generalize ([0, 20, u, v].map fun _ => PyData.bool true) = BT at *
    generalize (PyData.list [.none, .none]).shown = SH at *
    generalize (L.map (·.2)).map PyData.int = CL at *
    generalize L.map eKd = LK at *
    generalize stD L = SD at *
    generalize (D.length : Int) = N at *
    generalize D.map PyData.int = DD at *
    generalize capS L = CS at *
    generalize rangeD 0 2 = R2 at *
    generalize hS0 : st ++ [Ob.lst [.int x1, .int x2, .int x3]] = S0 at *
    unfold d_law_l1
    simp -implicitDefEqProofs [e1, e2, e3, tw2, sd, h3, wipeE, cl, sm, hdr, z2, rg2, rl2, f2, r1, n1, lw2, e4, e5, lw4, sl, l4, ac, al]
  · have z2 : (D.length : Int) ≤ capS L := by omega
    obtain ⟨t, lt, t20, _, _⟩ := lg_some hS hD z2
    rw [lt] at f2
    have f2 : ∀ (w5 : Option Wv), lcL (gN 10) tYs (eCall m_least_greatest (aCons (eVar 3) (aCons (eVar 4) aNil))) [] [some sc, some (.d (.int (c))), some (.r st.length), some (.d (stD L)), some (.d (.tuple (D.map .int))), w5, none, none, none, none, none] (rangeD 0 2) [] s2 = .ok [.int (t : Int), .int (t : Int)] s2 := f2
    have r1 := o_repr (fd_lst (k := 0) (n := 41) 2 (xs := [.int (t : Int), .int (t : Int)]) (fun x hx => by
      simp only [List.mem_cons, List.not_mem_nil, or_false] at hx
      rcases hx with rfl | rfl <;> exact fd_int (by omega)) (Nat.le_refl _)) (by decide) (by decide)
    have n1 := ne_self r1
    -- the least, by the law
    have f3 := lcL_filterE (g := gN 9) (t := tBl (eOp2 isND (eCall m__law_fewest_places (aCons (eVar 3) (aCons (eVar 4) (aCons (eVar 9) aNil)))) (eK .none))) (c := eVar 9) (env := [some sc, some (.d (.int (c))), some (.r st.length), some (.d (stD L)), some (.d (.tuple (D.map .int))), some (.d .none), none, none, none, none, none]) (st := s2) (fun i : Nat => PyData.int (i : Int)) (fun i : Nat => PyData.int (i : Int)) (fun i => fewN L D (i : Int)) (List.range 21) [] fun i _ => ⟨_, rfl, by
      have e := fun st => r_law_fewest (L := L) (D := D) (t := (i : Int)) (by omega) d8 st
      have fn := fpD_none (L := L) (D := D) (t := (i : Int))
      generalize fewN L D (i : Int) = b at *
      generalize fpD L D (i : Int) = FP at *
      generalize stD L = SD at *
      generalize D.map PyData.int = DD at *
      simp -implicitDefEqProofs [e, fn], fun _ => by simp⟩
    rw [List.nil_append, ← rangeD0] at f3
    have hd := head_filter (fun i : Nat => fewN L D (i : Int)) (List.range 21) t lt
    have hd : ixD (.list (((List.range 21).filter fun i : Nat => fewN L D (i : Int)).map fun n : Nat => PyData.int (n : Int))) (.int 0) = some (.int (t : Int)) := hd
    have mx : max2F [.int 0, .int ((t : Int) - 1)] = some (.int (if (t : Int) - 1 > 0 then (t : Int) - 1 else 0)) := o_max2 _ _
    have mn : min2F [.int 20, .int ((t : Int) + 1)] = some (.int (if (t : Int) + 1 < 20 then (t : Int) + 1 else 20)) := o_min2 _ _
    have ac := all_ok [0, 20, u, v, (t : Int), (if (t : Int) - 1 > 0 then (t : Int) - 1 else 0), (if (t : Int) + 1 < 20 then (t : Int) + 1 else 20)] (some (.d (.int ((t : Int))))) (some (.d (.list [.int 0, .int 20, .int u, .int v, .int (t : Int), .int (if (t : Int) - 1 > 0 then (t : Int) - 1 else 0), .int (if (t : Int) + 1 < 20 then (t : Int) + 1 else 20)]))) (fun w hw => by
      simp only [List.mem_cons, List.not_mem_nil, or_false] at hw
      rcases hw with rfl | rfl | rfl | rfl | rfl | rfl | rfl <;> (try split) <;> omega)
    have al := al [0, 20, u, v, (t : Int), (if (t : Int) - 1 > 0 then (t : Int) - 1 else 0), (if (t : Int) + 1 < 20 then (t : Int) + 1 else 20)]
    generalize (if (t : Int) - 1 > 0 then (t : Int) - 1 else 0) = T1 at *
    generalize (if (t : Int) + 1 < 20 then (t : Int) + 1 else 20) = T2 at *
    have ac : lcL (gN 9) tYs (eCall m__law_right (aCons (eVar 3) (aCons (eVar 4) (aCons (eVar 9) aNil)))) [] [some sc, some (.d (.int (c))), some (.r st.length), some (.d (stD L)), some (.d (.tuple (D.map .int))), some (.d (.int ((t : Int)))), some (.d (.list [.int 0, .int 20, .int u, .int v, .int (t : Int), .int T1, .int T2])), none, none, none, none] [.int 0, .int 20, .int u, .int v, .int (t : Int), .int T1, .int T2] [] s4 = .ok ([0, 20, u, v, (t : Int), T1, T2].map fun _ => .bool true) s4 := ac
    have ad : addD (.list [.int 0, .int 20, .int u, .int v]) (.list [.int (t : Int), .int T1, .int T2]) = some (.list [.int 0, .int 20, .int u, .int v, .int (t : Int), .int T1, .int T2]) := rfl
    have l7 : [PyData.int 0, .int 20, .int u, .int v, .int (t : Int), .int T1, .int T2].length ≤ 1000000 := Nat.le_of_ble_eq_true rfl
    generalize ([0, 20, u, v, (t : Int), T1, T2].map fun _ => PyData.bool true) = BT at *
    generalize [PyData.int 0, .int 20, .int u, .int v, .int (t : Int), .int T1, .int T2] = L7 at *
    generalize (PyData.list [.int (t : Int), .int (t : Int)]).shown = SH at *
    generalize ((List.range 21).filter fun i : Nat => fewN L D (i : Int)).map (fun n : Nat => PyData.int (n : Int)) = FL at *
    generalize (L.map (·.2)).map PyData.int = CL at *
    generalize L.map eKd = LK at *
    generalize stD L = SD at *
    generalize (D.length : Int) = N at *
    generalize D.map PyData.int = DD at *
    generalize capS L = CS at *
    generalize rangeD 0 2 = R2 at *
    generalize rangeD 0 21 = R21 at *
    generalize hS0 : st ++ [Ob.lst [.int x1, .int x2, .int x3]] = S0 at *
    unfold d_law_l1
    simp -implicitDefEqProofs [e1, e2, e3, tw2, sd, h3, wipeE, cl, sm, hdr, z2, rg21, rl21, f3, hd, rg2, rl2, f2, r1, n1, lw2, e4, e5, lw4, lw3, mx, mn, ad, sl, l7, ac, al, -o_max2, -o_min2, -o_add_l]
theorem law_ok (ns : List Int) (h : ns.length ≤ 63) : ∃ st, m_law [.d (.list (ns.map .int))] [] = .ok (.d (.bool true)) st := outer_w l1_turn ns h
end
theorem all_mk [Tbl] {P : Program} {w : World} {K : Frg} {h : Heap} {mg : Str → Option Value} {fa : Addr} (X : K.In h) (G : h.Ns mainGlobals mg) (hfa : mg "law" = some (.ref fa))
    {f_0 : Addr} {od_0 an_0 : Option Addr} {sl_0 : Array (Option Value)} {oc_0 kV_0 dc_0 pm_0 cd_0 ct_0 : Value}
    {f_1 : Addr} {od_1 an_1 : Option Addr} {sl_1 : Array (Option Value)} {oc_1 kV_1 dc_1 pm_1 cd_1 ct_1 : Value}
    {f_2 : Addr} {od_2 an_2 : Option Addr} {sl_2 : Array (Option Value)} {oc_2 kV_2 dc_2 pm_2 cd_2 ct_2 : Value}
    {f_3 : Addr} {od_3 an_3 : Option Addr} {sl_3 : Array (Option Value)} {oc_3 kV_3 dc_3 pm_3 cd_3 ct_3 : Value}
    {f_4 : Addr} {od_4 an_4 : Option Addr} {sl_4 : Array (Option Value)} {oc_4 kV_4 dc_4 pm_4 cd_4 ct_4 : Value}
    {f_5 : Addr} {od_5 an_5 : Option Addr} {sl_5 : Array (Option Value)} {oc_5 kV_5 dc_5 pm_5 cd_5 ct_5 : Value}
    {f_6 : Addr} {od_6 an_6 : Option Addr} {sl_6 : Array (Option Value)} {oc_6 kV_6 dc_6 pm_6 cd_6 ct_6 : Value}
    {f_7 : Addr} {od_7 an_7 : Option Addr} {sl_7 : Array (Option Value)} {oc_7 kV_7 dc_7 pm_7 cd_7 ct_7 : Value}
    {f_8 : Addr} {od_8 an_8 : Option Addr} {sl_8 : Array (Option Value)} {oc_8 kV_8 dc_8 pm_8 cd_8 ct_8 : Value}
    {f_9 : Addr} {od_9 an_9 : Option Addr} {sl_9 : Array (Option Value)} {oc_9 kV_9 dc_9 pm_9 cd_9 ct_9 : Value}
    {f_10 : Addr} {od_10 an_10 : Option Addr} {sl_10 : Array (Option Value)} {oc_10 kV_10 dc_10 pm_10 cd_10 ct_10 : Value}
    {f_11 : Addr} {od_11 an_11 : Option Addr} {sl_11 : Array (Option Value)} {oc_11 kV_11 dc_11 pm_11 cd_11 ct_11 : Value}
    {f_12 : Addr} {od_12 an_12 : Option Addr} {sl_12 : Array (Option Value)} {oc_12 kV_12 dc_12 pm_12 cd_12 ct_12 : Value}
    {f_13 : Addr} {od_13 an_13 : Option Addr} {sl_13 : Array (Option Value)} {oc_13 kV_13 dc_13 pm_13 cd_13 ct_13 : Value}
    {f_14 : Addr} {od_14 an_14 : Option Addr} {sl_14 : Array (Option Value)} {oc_14 kV_14 dc_14 pm_14 cd_14 ct_14 : Value}
    {f_15 : Addr} {od_15 an_15 : Option Addr} {sl_15 : Array (Option Value)} {oc_15 kV_15 dc_15 pm_15 cd_15 ct_15 : Value}
    {f_16 : Addr} {od_16 an_16 : Option Addr} {sl_16 : Array (Option Value)} {oc_16 kV_16 dc_16 pm_16 cd_16 ct_16 : Value}
    {f_17 : Addr} {od_17 an_17 : Option Addr} {sl_17 : Array (Option Value)} {oc_17 kV_17 dc_17 pm_17 cd_17 ct_17 : Value}
    {f_18 : Addr} {od_18 an_18 : Option Addr} {sl_18 : Array (Option Value)} {oc_18 kV_18 dc_18 pm_18 cd_18 ct_18 : Value}
    {f_19 : Addr} {od_19 an_19 : Option Addr} {sl_19 : Array (Option Value)} {oc_19 kV_19 dc_19 pm_19 cd_19 ct_19 : Value}
    {f_20 : Addr} {od_20 an_20 : Option Addr} {sl_20 : Array (Option Value)} {oc_20 kV_20 dc_20 pm_20 cd_20 ct_20 : Value}
    {f_21 : Addr} {od_21 an_21 : Option Addr} {sl_21 : Array (Option Value)} {oc_21 kV_21 dc_21 pm_21 cd_21 ct_21 : Value}
    {f_22 : Addr} {od_22 an_22 : Option Addr} {sl_22 : Array (Option Value)} {oc_22 kV_22 dc_22 pm_22 cd_22 ct_22 : Value}
    {f_23 : Addr} {od_23 an_23 : Option Addr} {sl_23 : Array (Option Value)} {oc_23 kV_23 dc_23 pm_23 cd_23 ct_23 : Value}
    {f_24 : Addr} {od_24 an_24 : Option Addr} {sl_24 : Array (Option Value)} {oc_24 kV_24 dc_24 pm_24 cd_24 ct_24 : Value}
    {f_25 : Addr} {od_25 an_25 : Option Addr} {sl_25 : Array (Option Value)} {oc_25 kV_25 dc_25 pm_25 cd_25 ct_25 : Value}
    {f_26 : Addr} {od_26 an_26 : Option Addr} {sl_26 : Array (Option Value)} {oc_26 kV_26 dc_26 pm_26 cd_26 ct_26 : Value}
    {f_27 : Addr} {od_27 an_27 : Option Addr} {sl_27 : Array (Option Value)} {oc_27 kV_27 dc_27 pm_27 cd_27 ct_27 : Value}
    {f_28 : Addr} {od_28 an_28 : Option Addr} {sl_28 : Array (Option Value)} {oc_28 kV_28 dc_28 pm_28 cd_28 ct_28 : Value}
    {f_29 : Addr} {od_29 an_29 : Option Addr} {sl_29 : Array (Option Value)} {oc_29 kV_29 dc_29 pm_29 cd_29 ct_29 : Value}
    {f_30 : Addr} {od_30 an_30 : Option Addr} {sl_30 : Array (Option Value)} {oc_30 kV_30 dc_30 pm_30 cd_30 ct_30 : Value}
    {t_MOST_BATCH : Tok}
    {t_MOST_KINDS : Tok}
    {t_MOST_KINDS_HERE : Tok}
    {t_MOST_LONG : Tok}
    {t_MOST_PLACES : Tok}
    {t_MOST_SHADE : Tok}
    (a_0 : PySem.W.nsIn K mainGlobals "_law_pen_of" = some (some (.ref f_0)))
    (l_0 : K.lookup f_0 = some ⟨oc_0, od_0, .func (PySem.W.fnOf "_law_pen_of" "_law_pen_of" (defArgs s__law_pen_of) (defBody s__law_pen_of) (defScope s__law_pen_of) .none kV_0 dc_0 pm_0 an_0 cd_0 ct_0), sl_0⟩)
    (c_0 : PySem.W.codeIn K cd_0 "_law_pen_of" = true)
    (k_0 : PySem.W.keepIn K (.ref f_0) = true)
    (a_1 : PySem.W.nsIn K mainGlobals "_law_cell_at" = some (some (.ref f_1)))
    (l_1 : K.lookup f_1 = some ⟨oc_1, od_1, .func (PySem.W.fnOf "_law_cell_at" "_law_cell_at" (defArgs s__law_cell_at) (defBody s__law_cell_at) (defScope s__law_cell_at) .none kV_1 dc_1 pm_1 an_1 cd_1 ct_1), sl_1⟩)
    (c_1 : PySem.W.codeIn K cd_1 "_law_cell_at" = true)
    (k_1 : PySem.W.keepIn K (.ref f_1) = true)
    (a_2 : PySem.W.nsIn K mainGlobals "_law_next" = some (some (.ref f_2)))
    (l_2 : K.lookup f_2 = some ⟨oc_2, od_2, .func (PySem.W.fnOf "_law_next" "_law_next" (defArgs s__law_next) (defBody s__law_next) (defScope s__law_next) .none kV_2 dc_2 pm_2 an_2 cd_2 ct_2), sl_2⟩)
    (c_2 : PySem.W.codeIn K cd_2 "_law_next" = true)
    (k_2 : PySem.W.keepIn K (.ref f_2) = true)
    (a_3 : PySem.W.nsIn K mainGlobals "_law_draw" = some (some (.ref f_3)))
    (l_3 : K.lookup f_3 = some ⟨oc_3, od_3, .func (PySem.W.fnOf "_law_draw" "_law_draw" (defArgs s__law_draw) (defBody s__law_draw) (defScope s__law_draw) .none kV_3 dc_3 pm_3 an_3 cd_3 ct_3), sl_3⟩)
    (c_3 : PySem.W.codeIn K cd_3 "_law_draw" = true)
    (k_3 : PySem.W.keepIn K (.ref f_3) = true)
    (a_4 : PySem.W.nsIn K mainGlobals "_law_small" = some (some (.ref f_4)))
    (l_4 : K.lookup f_4 = some ⟨oc_4, od_4, .func (PySem.W.fnOf "_law_small" "_law_small" (defArgs s__law_small) (defBody s__law_small) (defScope s__law_small) .none kV_4 dc_4 pm_4 an_4 cd_4 ct_4), sl_4⟩)
    (c_4 : PySem.W.codeIn K cd_4 "_law_small" = true)
    (k_4 : PySem.W.keepIn K (.ref f_4) = true)
    (a_5 : PySem.W.nsIn K mainGlobals "_law_drawing" = some (some (.ref f_5)))
    (l_5 : K.lookup f_5 = some ⟨oc_5, od_5, .func (PySem.W.fnOf "_law_drawing" "_law_drawing" (defArgs s__law_drawing) (defBody s__law_drawing) (defScope s__law_drawing) .none kV_5 dc_5 pm_5 an_5 cd_5 ct_5), sl_5⟩)
    (c_5 : PySem.W.codeIn K cd_5 "_law_drawing" = true)
    (k_5 : PySem.W.keepIn K (.ref f_5) = true)
    (a_6 : PySem.W.nsIn K mainGlobals "is_whole" = some (some (.ref f_6)))
    (l_6 : K.lookup f_6 = some ⟨oc_6, od_6, .func (PySem.W.fnOf "is_whole" "is_whole" (defArgs s_is_whole) (defBody s_is_whole) (defScope s_is_whole) .none kV_6 dc_6 pm_6 an_6 cd_6 ct_6), sl_6⟩)
    (c_6 : PySem.W.codeIn K cd_6 "is_whole" = true)
    (k_6 : PySem.W.keepIn K (.ref f_6) = true)
    (a_7 : PySem.W.nsIn K mainGlobals "is_stone" = some (some (.ref f_7)))
    (l_7 : K.lookup f_7 = some ⟨oc_7, od_7, .func (PySem.W.fnOf "is_stone" "is_stone" (defArgs s_is_stone) (defBody s_is_stone) (defScope s_is_stone) .none kV_7 dc_7 pm_7 an_7 cd_7 ct_7), sl_7⟩)
    (c_7 : PySem.W.codeIn K cd_7 "is_stone" = true)
    (k_7 : PySem.W.keepIn K (.ref f_7) = true)
    (a_8 : PySem.W.nsIn K mainGlobals "is_many" = some (some (.ref f_8)))
    (l_8 : K.lookup f_8 = some ⟨oc_8, od_8, .func (PySem.W.fnOf "is_many" "is_many" (defArgs s_is_many) (defBody s_is_many) (defScope s_is_many) .none kV_8 dc_8 pm_8 an_8 cd_8 ct_8), sl_8⟩)
    (c_8 : PySem.W.codeIn K cd_8 "is_many" = true)
    (k_8 : PySem.W.keepIn K (.ref f_8) = true)
    (a_9 : PySem.W.nsIn K mainGlobals "is_kind" = some (some (.ref f_9)))
    (l_9 : K.lookup f_9 = some ⟨oc_9, od_9, .func (PySem.W.fnOf "is_kind" "is_kind" (defArgs s_is_kind) (defBody s_is_kind) (defScope s_is_kind) .none kV_9 dc_9 pm_9 an_9 cd_9 ct_9), sl_9⟩)
    (c_9 : PySem.W.codeIn K cd_9 "is_kind" = true)
    (k_9 : PySem.W.keepIn K (.ref f_9) = true)
    (a_10 : PySem.W.nsIn K mainGlobals "is_stock" = some (some (.ref f_10)))
    (l_10 : K.lookup f_10 = some ⟨oc_10, od_10, .func (PySem.W.fnOf "is_stock" "is_stock" (defArgs s_is_stock) (defBody s_is_stock) (defScope s_is_stock) .none kV_10 dc_10 pm_10 an_10 cd_10 ct_10), sl_10⟩)
    (c_10 : PySem.W.codeIn K cd_10 "is_stock" = true)
    (k_10 : PySem.W.keepIn K (.ref f_10) = true)
    (a_11 : PySem.W.nsIn K mainGlobals "need_stock" = some (some (.ref f_11)))
    (l_11 : K.lookup f_11 = some ⟨oc_11, od_11, .func (PySem.W.fnOf "need_stock" "need_stock" (defArgs s_need_stock) (defBody s_need_stock) (defScope s_need_stock) .none kV_11 dc_11 pm_11 an_11 cd_11 ct_11), sl_11⟩)
    (c_11 : PySem.W.codeIn K cd_11 "need_stock" = true)
    (k_11 : PySem.W.keepIn K (.ref f_11) = true)
    (a_12 : PySem.W.nsIn K mainGlobals "is_drawing" = some (some (.ref f_12)))
    (l_12 : K.lookup f_12 = some ⟨oc_12, od_12, .func (PySem.W.fnOf "is_drawing" "is_drawing" (defArgs s_is_drawing) (defBody s_is_drawing) (defScope s_is_drawing) .none kV_12 dc_12 pm_12 an_12 cd_12 ct_12), sl_12⟩)
    (c_12 : PySem.W.codeIn K cd_12 "is_drawing" = true)
    (k_12 : PySem.W.keepIn K (.ref f_12) = true)
    (a_13 : PySem.W.nsIn K mainGlobals "need_drawing" = some (some (.ref f_13)))
    (l_13 : K.lookup f_13 = some ⟨oc_13, od_13, .func (PySem.W.fnOf "need_drawing" "need_drawing" (defArgs s_need_drawing) (defBody s_need_drawing) (defScope s_need_drawing) .none kV_13 dc_13 pm_13 an_13 cd_13 ct_13), sl_13⟩)
    (c_13 : PySem.W.codeIn K cd_13 "need_drawing" = true)
    (k_13 : PySem.W.keepIn K (.ref f_13) = true)
    (a_14 : PySem.W.nsIn K mainGlobals "need_few" = some (some (.ref f_14)))
    (l_14 : K.lookup f_14 = some ⟨oc_14, od_14, .func (PySem.W.fnOf "need_few" "need_few" (defArgs s_need_few) (defBody s_need_few) (defScope s_need_few) .none kV_14 dc_14 pm_14 an_14 cd_14 ct_14), sl_14⟩)
    (c_14 : PySem.W.codeIn K cd_14 "need_few" = true)
    (k_14 : PySem.W.keepIn K (.ref f_14) = true)
    (a_15 : PySem.W.nsIn K mainGlobals "cost_of" = some (some (.ref f_15)))
    (l_15 : K.lookup f_15 = some ⟨oc_15, od_15, .func (PySem.W.fnOf "cost_of" "cost_of" (defArgs s_cost_of) (defBody s_cost_of) (defScope s_cost_of) .none kV_15 dc_15 pm_15 an_15 cd_15 ct_15), sl_15⟩)
    (c_15 : PySem.W.codeIn K cd_15 "cost_of" = true)
    (k_15 : PySem.W.keepIn K (.ref f_15) = true)
    (a_16 : PySem.W.nsIn K mainGlobals "near_kinds" = some (some (.ref f_16)))
    (l_16 : K.lookup f_16 = some ⟨oc_16, od_16, .func (PySem.W.fnOf "near_kinds" "near_kinds" (defArgs s_near_kinds) (defBody s_near_kinds) (defScope s_near_kinds) .none kV_16 dc_16 pm_16 an_16 cd_16 ct_16), sl_16⟩)
    (c_16 : PySem.W.codeIn K cd_16 "near_kinds" = true)
    (k_16 : PySem.W.keepIn K (.ref f_16) = true)
    (a_17 : PySem.W.nsIn K mainGlobals "makes_room" = some (some (.ref f_17)))
    (l_17 : K.lookup f_17 = some ⟨oc_17, od_17, .func (PySem.W.fnOf "makes_room" "makes_room" (defArgs s_makes_room) (defBody s_makes_room) (defScope s_makes_room) .none kV_17 dc_17 pm_17 an_17 cd_17 ct_17), sl_17⟩)
    (c_17 : PySem.W.codeIn K cd_17 "makes_room" = true)
    (k_17 : PySem.W.keepIn K (.ref f_17) = true)
    (a_18 : PySem.W.nsIn K mainGlobals "pick_within" = some (some (.ref f_18)))
    (l_18 : K.lookup f_18 = some ⟨oc_18, od_18, .func (PySem.W.fnOf "pick_within" "pick_within" (defArgs s_pick_within) (defBody s_pick_within) (defScope s_pick_within) .none kV_18 dc_18 pm_18 an_18 cd_18 ct_18), sl_18⟩)
    (c_18 : PySem.W.codeIn K cd_18 "pick_within" = true)
    (k_18 : PySem.W.keepIn K (.ref f_18) = true)
    (a_19 : PySem.W.nsIn K mainGlobals "least_greatest" = some (some (.ref f_19)))
    (l_19 : K.lookup f_19 = some ⟨oc_19, od_19, .func (PySem.W.fnOf "least_greatest" "least_greatest" (defArgs s_least_greatest) (defBody s_least_greatest) (defScope s_least_greatest) .none kV_19 dc_19 pm_19 an_19 cd_19 ct_19), sl_19⟩)
    (c_19 : PySem.W.codeIn K cd_19 "least_greatest" = true)
    (k_19 : PySem.W.keepIn K (.ref f_19) = true)
    (a_20 : PySem.W.nsIn K mainGlobals "_law_cost" = some (some (.ref f_20)))
    (l_20 : K.lookup f_20 = some ⟨oc_20, od_20, .func (PySem.W.fnOf "_law_cost" "_law_cost" (defArgs s__law_cost) (defBody s__law_cost) (defScope s__law_cost) .none kV_20 dc_20 pm_20 an_20 cd_20 ct_20), sl_20⟩)
    (c_20 : PySem.W.codeIn K cd_20 "_law_cost" = true)
    (k_20 : PySem.W.keepIn K (.ref f_20) = true)
    (a_21 : PySem.W.nsIn K mainGlobals "_law_few" = some (some (.ref f_21)))
    (l_21 : K.lookup f_21 = some ⟨oc_21, od_21, .func (PySem.W.fnOf "_law_few" "_law_few" (defArgs s__law_few) (defBody s__law_few) (defScope s__law_few) .none kV_21 dc_21 pm_21 an_21 cd_21 ct_21), sl_21⟩)
    (c_21 : PySem.W.codeIn K cd_21 "_law_few" = true)
    (k_21 : PySem.W.keepIn K (.ref f_21) = true)
    (a_22 : PySem.W.nsIn K mainGlobals "_law_fewest_places" = some (some (.ref f_22)))
    (l_22 : K.lookup f_22 = some ⟨oc_22, od_22, .func (PySem.W.fnOf "_law_fewest_places" "_law_fewest_places" (defArgs s__law_fewest_places) (defBody s__law_fewest_places) (defScope s__law_fewest_places) .none kV_22 dc_22 pm_22 an_22 cd_22 ct_22), sl_22⟩)
    (c_22 : PySem.W.codeIn K cd_22 "_law_fewest_places" = true)
    (k_22 : PySem.W.keepIn K (.ref f_22) = true)
    (a_23 : PySem.W.nsIn K mainGlobals "need_number" = some (some (.ref f_23)))
    (l_23 : K.lookup f_23 = some ⟨oc_23, od_23, .func (PySem.W.fnOf "need_number" "need_number" (defArgs s_need_number) (defBody s_need_number) (defScope s_need_number) .none kV_23 dc_23 pm_23 an_23 cd_23 ct_23), sl_23⟩)
    (c_23 : PySem.W.codeIn K cd_23 "need_number" = true)
    (k_23 : PySem.W.keepIn K (.ref f_23) = true)
    (a_24 : PySem.W.nsIn K mainGlobals "are_few" = some (some (.ref f_24)))
    (l_24 : K.lookup f_24 = some ⟨oc_24, od_24, .func (PySem.W.fnOf "are_few" "are_few" (defArgs s_are_few) (defBody s_are_few) (defScope s_are_few) .none kV_24 dc_24 pm_24 an_24 cd_24 ct_24), sl_24⟩)
    (c_24 : PySem.W.codeIn K cd_24 "are_few" = true)
    (k_24 : PySem.W.keepIn K (.ref f_24) = true)
    (a_25 : PySem.W.nsIn K mainGlobals "few_places" = some (some (.ref f_25)))
    (l_25 : K.lookup f_25 = some ⟨oc_25, od_25, .func (PySem.W.fnOf "few_places" "few_places" (defArgs s_few_places) (defBody s_few_places) (defScope s_few_places) .none kV_25 dc_25 pm_25 an_25 cd_25 ct_25), sl_25⟩)
    (c_25 : PySem.W.codeIn K cd_25 "few_places" = true)
    (k_25 : PySem.W.keepIn K (.ref f_25) = true)
    (a_26 : PySem.W.nsIn K mainGlobals "within" = some (some (.ref f_26)))
    (l_26 : K.lookup f_26 = some ⟨oc_26, od_26, .func (PySem.W.fnOf "within" "within" (defArgs s_within) (defBody s_within) (defScope s_within) .none kV_26 dc_26 pm_26 an_26 cd_26 ct_26), sl_26⟩)
    (c_26 : PySem.W.codeIn K cd_26 "within" = true)
    (k_26 : PySem.W.keepIn K (.ref f_26) = true)
    (a_27 : PySem.W.nsIn K mainGlobals "_law_whole" = some (some (.ref f_27)))
    (l_27 : K.lookup f_27 = some ⟨oc_27, od_27, .func (PySem.W.fnOf "_law_whole" "_law_whole" (defArgs s__law_whole) (defBody s__law_whole) (defScope s__law_whole) .none kV_27 dc_27 pm_27 an_27 cd_27 ct_27), sl_27⟩)
    (c_27 : PySem.W.codeIn K cd_27 "_law_whole" = true)
    (k_27 : PySem.W.keepIn K (.ref f_27) = true)
    (a_28 : PySem.W.nsIn K mainGlobals "_law_is_pick" = some (some (.ref f_28)))
    (l_28 : K.lookup f_28 = some ⟨oc_28, od_28, .func (PySem.W.fnOf "_law_is_pick" "_law_is_pick" (defArgs s__law_is_pick) (defBody s__law_is_pick) (defScope s__law_is_pick) .none kV_28 dc_28 pm_28 an_28 cd_28 ct_28), sl_28⟩)
    (c_28 : PySem.W.codeIn K cd_28 "_law_is_pick" = true)
    (k_28 : PySem.W.keepIn K (.ref f_28) = true)
    (a_29 : PySem.W.nsIn K mainGlobals "_law_right" = some (some (.ref f_29)))
    (l_29 : K.lookup f_29 = some ⟨oc_29, od_29, .func (PySem.W.fnOf "_law_right" "_law_right" (defArgs s__law_right) (defBody s__law_right) (defScope s__law_right) .none kV_29 dc_29 pm_29 an_29 cd_29 ct_29), sl_29⟩)
    (c_29 : PySem.W.codeIn K cd_29 "_law_right" = true)
    (k_29 : PySem.W.keepIn K (.ref f_29) = true)
    (a_30 : PySem.W.nsIn K mainGlobals "law" = some (some (.ref f_30)))
    (l_30 : K.lookup f_30 = some ⟨oc_30, od_30, .func (PySem.W.fnOf "law" "law" (defArgs s_law) (defBody s_law) (defScope s_law) .none kV_30 dc_30 pm_30 an_30 cd_30 ct_30), sl_30⟩)
    (c_30 : PySem.W.codeIn K cd_30 "law" = true)
    (k_30 : PySem.W.keepIn K (.ref f_30) = true)
    (z_abs : PySem.W.nsIn K mainGlobals "abs" = some none)
    (z_all : PySem.W.nsIn K mainGlobals "all" = some none)
    (z_bool : PySem.W.nsIn K mainGlobals "bool" = some none)
    (z_enumerate : PySem.W.nsIn K mainGlobals "enumerate" = some none)
    (z_int : PySem.W.nsIn K mainGlobals "int" = some none)
    (z_isinstance : PySem.W.nsIn K mainGlobals "isinstance" = some none)
    (z_len : PySem.W.nsIn K mainGlobals "len" = some none)
    (z_list : PySem.W.nsIn K mainGlobals "list" = some none)
    (z_max : PySem.W.nsIn K mainGlobals "max" = some none)
    (z_min : PySem.W.nsIn K mainGlobals "min" = some none)
    (z_range : PySem.W.nsIn K mainGlobals "range" = some none)
    (z_repr : PySem.W.nsIn K mainGlobals "repr" = some none)
    (z_sorted : PySem.W.nsIn K mainGlobals "sorted" = some none)
    (z_sum : PySem.W.nsIn K mainGlobals "sum" = some none)
    (z_tuple : PySem.W.nsIn K mainGlobals "tuple" = some none)
    (z_zip : PySem.W.nsIn K mainGlobals "zip" = some none)
    (a_MOST_BATCH : PySem.W.nsIn K mainGlobals "MOST_BATCH" = some (some (.int 9 t_MOST_BATCH)))
    (a_MOST_KINDS : PySem.W.nsIn K mainGlobals "MOST_KINDS" = some (some (.int 100 t_MOST_KINDS)))
    (a_MOST_KINDS_HERE : PySem.W.nsIn K mainGlobals "MOST_KINDS_HERE" = some (some (.int 8 t_MOST_KINDS_HERE)))
    (a_MOST_LONG : PySem.W.nsIn K mainGlobals "MOST_LONG" = some (some (.int 20 t_MOST_LONG)))
    (a_MOST_PLACES : PySem.W.nsIn K mainGlobals "MOST_PLACES" = some (some (.int 8 t_MOST_PLACES)))
    (a_MOST_SHADE : PySem.W.nsIn K mainGlobals "MOST_SHADE" = some (some (.int 20 t_MOST_SHADE))) :
    ∃ (fd : FuncData), (∀ (s : Shared) (v : Value), BindsTo s fd ⟨[v], []⟩ [("_law_script", v)]) ∧ ∀ base : Heap, K.In base → base.Ns mainGlobals mg → SysM base → Fnk ⟨P, w, K, mg, base⟩ true 16 fa fd ["_law_script"] m_law := by
  have e := hfa.symm.trans (PySem.W.mg_of X G a_30)
  cases e
  refine ⟨PySem.W.fnOf "law" "law" (defArgs s_law) (defBody s_law) (defScope s_law) .none kV_30 dc_30 pm_30 an_30 cd_30 ct_30, fun s v => .of_eq rfl, fun base _ _ SMb => ?_⟩
  have T : Hs ⟨P, w, K, mg, base⟩ := ⟨SMb,
    PySem.W.mg_none_of X G z_abs,
    PySem.W.mg_none_of X G z_all,
    PySem.W.mg_none_of X G z_bool,
    PySem.W.mg_none_of X G z_enumerate,
    PySem.W.mg_none_of X G z_int,
    PySem.W.mg_none_of X G z_isinstance,
    PySem.W.mg_none_of X G z_len,
    PySem.W.mg_none_of X G z_list,
    PySem.W.mg_none_of X G z_max,
    PySem.W.mg_none_of X G z_min,
    PySem.W.mg_none_of X G z_range,
    PySem.W.mg_none_of X G z_repr,
    PySem.W.mg_none_of X G z_sorted,
    PySem.W.mg_none_of X G z_sum,
    PySem.W.mg_none_of X G z_tuple,
    PySem.W.mg_none_of X G z_zip,
    gw_of X G a_MOST_BATCH wr_int,
    gw_of X G a_MOST_KINDS wr_int,
    gw_of X G a_MOST_KINDS_HERE wr_int,
    gw_of X G a_MOST_LONG wr_int,
    gw_of X G a_MOST_PLACES wr_int,
    gw_of X G a_MOST_SHADE wr_int⟩
  have h__law_pen_of := h__law_pen_of T  (top_mk (M := ⟨P, w, K, mg, base⟩) X G a_0 l_0 c_0 k_0 (fun us hl => match us, hl with | [_], _ => rfl))
  have h__law_cell_at := h__law_cell_at T  (top_mk (M := ⟨P, w, K, mg, base⟩) X G a_1 l_1 c_1 k_1 (fun us hl => match us, hl with | [_, _], _ => rfl))
  have h__law_next := h__law_next T  (top_mk (M := ⟨P, w, K, mg, base⟩) X G a_2 l_2 c_2 k_2 (fun us hl => match us, hl with | [_], _ => rfl))
  have h__law_draw := h__law_draw T h__law_next (top_mk (M := ⟨P, w, K, mg, base⟩) X G a_3 l_3 c_3 k_3 (fun us hl => match us, hl with | [_, _], _ => rfl))
  have h__law_small := h__law_small T h__law_draw (top_mk (M := ⟨P, w, K, mg, base⟩) X G a_4 l_4 c_4 k_4 (fun us hl => match us, hl with | [_, _], _ => rfl))
  have h__law_drawing := h__law_drawing T h__law_draw (top_mk (M := ⟨P, w, K, mg, base⟩) X G a_5 l_5 c_5 k_5 (fun us hl => match us, hl with | [_], _ => rfl))
  have h_is_whole := h_is_whole T  (top_mk (M := ⟨P, w, K, mg, base⟩) X G a_6 l_6 c_6 k_6 (fun us hl => match us, hl with | [_, _, _], _ => rfl))
  have h_is_stone := h_is_stone T h_is_whole (top_mk (M := ⟨P, w, K, mg, base⟩) X G a_7 l_7 c_7 k_7 (fun us hl => match us, hl with | [_], _ => rfl))
  have h_is_many := h_is_many T  (top_mk (M := ⟨P, w, K, mg, base⟩) X G a_8 l_8 c_8 k_8 (fun us hl => match us, hl with | [_], _ => rfl))
  have h_is_kind := h_is_kind T h_is_many h_is_stone (top_mk (M := ⟨P, w, K, mg, base⟩) X G a_9 l_9 c_9 k_9 (fun us hl => match us, hl with | [_], _ => rfl))
  have h_is_stock := h_is_stock T h_is_kind (top_mk (M := ⟨P, w, K, mg, base⟩) X G a_10 l_10 c_10 k_10 (fun us hl => match us, hl with | [_], _ => rfl))
  have h_need_stock := h_need_stock T h_is_stock (top_mk (M := ⟨P, w, K, mg, base⟩) X G a_11 l_11 c_11 k_11 (fun us hl => match us, hl with | [_], _ => rfl))
  have h_is_drawing := h_is_drawing T h_is_whole (top_mk (M := ⟨P, w, K, mg, base⟩) X G a_12 l_12 c_12 k_12 (fun us hl => match us, hl with | [_], _ => rfl))
  have h_need_drawing := h_need_drawing T h_is_drawing (top_mk (M := ⟨P, w, K, mg, base⟩) X G a_13 l_13 c_13 k_13 (fun us hl => match us, hl with | [_], _ => rfl))
  have h_need_few := h_need_few T  (top_mk (M := ⟨P, w, K, mg, base⟩) X G a_14 l_14 c_14 k_14 (fun us hl => match us, hl with | [_], _ => rfl))
  have h_cost_of := h_cost_of T  (top_mk (M := ⟨P, w, K, mg, base⟩) X G a_15 l_15 c_15 k_15 (fun us hl => match us, hl with | [_, _, _, _], _ => rfl))
  have h_near_kinds := h_near_kinds T h_cost_of (top_mk (M := ⟨P, w, K, mg, base⟩) X G a_16 l_16 c_16 k_16 (fun us hl => match us, hl with | [_, _, _, _], _ => rfl))
  have h_makes_room := h_makes_room T h_near_kinds (top_mk (M := ⟨P, w, K, mg, base⟩) X G a_17 l_17 c_17 k_17 (fun us hl => match us, hl with | [_, _, _, _, _, _], _ => rfl)) 10
  have h_pick_within := h_pick_within T h_makes_room (top_mk (M := ⟨P, w, K, mg, base⟩) X G a_18 l_18 c_18 k_18 (fun us hl => match us, hl with | [_, _, _], _ => rfl))
  have h_least_greatest := h_least_greatest T h_need_drawing h_need_few h_need_stock h_pick_within (top_mk (M := ⟨P, w, K, mg, base⟩) X G a_19 l_19 c_19 k_19 (fun us hl => match us, hl with | [_, _], _ => rfl))
  have h__law_cost := h__law_cost T  (top_mk (M := ⟨P, w, K, mg, base⟩) X G a_20 l_20 c_20 k_20 (fun us hl => match us, hl with | [_, _, _, _], _ => rfl))
  have h__law_few := h__law_few T h__law_cost (top_mk (M := ⟨P, w, K, mg, base⟩) X G a_21 l_21 c_21 k_21 (fun us hl => match us, hl with | [_, _, _, _], _ => rfl))
  have h__law_fewest_places := h__law_fewest_places T h__law_few (top_mk (M := ⟨P, w, K, mg, base⟩) X G a_22 l_22 c_22 k_22 (fun us hl => match us, hl with | [_, _, _], _ => rfl))
  have h_need_number := h_need_number T h_is_whole (top_mk (M := ⟨P, w, K, mg, base⟩) X G a_23 l_23 c_23 k_23 (fun us hl => match us, hl with | [_, _, _], _ => rfl))
  have h_are_few := h_are_few T h_near_kinds (top_mk (M := ⟨P, w, K, mg, base⟩) X G a_24 l_24 c_24 k_24 (fun us hl => match us, hl with | [_, _, _, _], _ => rfl))
  have h_few_places := h_few_places T h_are_few (top_mk (M := ⟨P, w, K, mg, base⟩) X G a_25 l_25 c_25 k_25 (fun us hl => match us, hl with | [_, _, _], _ => rfl))
  have h_within := h_within T h_few_places h_need_drawing h_need_few h_need_number h_need_stock h_pick_within (top_mk (M := ⟨P, w, K, mg, base⟩) X G a_26 l_26 c_26 k_26 (fun us hl => match us, hl with | [_, _, _], _ => rfl))
  have h__law_whole := h__law_whole T  (top_mk (M := ⟨P, w, K, mg, base⟩) X G a_27 l_27 c_27 k_27 (fun us hl => match us, hl with | [_, _, _], _ => rfl))
  have h__law_is_pick := h__law_is_pick T h__law_whole (top_mk (M := ⟨P, w, K, mg, base⟩) X G a_28 l_28 c_28 k_28 (fun us hl => match us, hl with | [_, _, _], _ => rfl))
  have h__law_right := h__law_right T h__law_cost h__law_fewest_places h__law_is_pick h_within (top_mk (M := ⟨P, w, K, mg, base⟩) X G a_29 l_29 c_29 k_29 (fun us hl => match us, hl with | [_, _, _], _ => rfl))
  exact fnk_of l_30 c_30 sc_law t_law rfl rfl (fun X c => b_law T h__law_cell_at h__law_draw h__law_drawing h__law_fewest_places h__law_pen_of h__law_right h__law_small h_least_greatest c)
end PV
open PySem PySem.W PyProof.Rows
set_option maxRecDepth 100000 in
set_option maxHeartbeats 0 in
theorem PySem.Challenge.cw_bentstones_k35_picks_within_a_miss_holds : PySem.Challenge.rw_bentstones_k35_picks_within_a_miss.Holds := by
  w_on; o_law; k_head; (case hw => w_witness2)
  k_fill
  letI : PV.Tbl := ⟨[]⟩
  refine PV.walk_run rfl (g := true) (l := PySem.Challenge.rw_bentstones_k35_picks_within_a_miss) (n := 63) (k := 16) (x := "_law_script") (mf := PV.m_law) (by rfl) rfl (by decide) rfl ⟨rfl, by decide, by decide⟩ (fun w h Y => PySem.W.kIn_of Y) ?F PV.law_ok
  case F =>
    intro w mg fa h KX G hmg
    refine' PV.all_mk KX G hmg ?a_0 ?l_0 ?c_0 ?k_0 ?a_1 ?l_1 ?c_1 ?k_1 ?a_2 ?l_2 ?c_2 ?k_2 ?a_3 ?l_3 ?c_3 ?k_3 ?a_4 ?l_4 ?c_4 ?k_4 ?a_5 ?l_5 ?c_5 ?k_5 ?a_6 ?l_6 ?c_6 ?k_6 ?a_7 ?l_7 ?c_7 ?k_7 ?a_8 ?l_8 ?c_8 ?k_8 ?a_9 ?l_9 ?c_9 ?k_9 ?a_10 ?l_10 ?c_10 ?k_10 ?a_11 ?l_11 ?c_11 ?k_11 ?a_12 ?l_12 ?c_12 ?k_12 ?a_13 ?l_13 ?c_13 ?k_13 ?a_14 ?l_14 ?c_14 ?k_14 ?a_15 ?l_15 ?c_15 ?k_15 ?a_16 ?l_16 ?c_16 ?k_16 ?a_17 ?l_17 ?c_17 ?k_17 ?a_18 ?l_18 ?c_18 ?k_18 ?a_19 ?l_19 ?c_19 ?k_19 ?a_20 ?l_20 ?c_20 ?k_20 ?a_21 ?l_21 ?c_21 ?k_21 ?a_22 ?l_22 ?c_22 ?k_22 ?a_23 ?l_23 ?c_23 ?k_23 ?a_24 ?l_24 ?c_24 ?k_24 ?a_25 ?l_25 ?c_25 ?k_25 ?a_26 ?l_26 ?c_26 ?k_26 ?a_27 ?l_27 ?c_27 ?k_27 ?a_28 ?l_28 ?c_28 ?k_28 ?a_29 ?l_29 ?c_29 ?k_29 ?a_30 ?l_30 ?c_30 ?k_30 ?z_abs ?z_all ?z_bool ?z_enumerate ?z_int ?z_isinstance ?z_len ?z_list ?z_max ?z_min ?z_range ?z_repr ?z_sorted ?z_sum ?z_tuple ?z_zip ?a_MOST_BATCH ?a_MOST_KINDS ?a_MOST_KINDS_HERE ?a_MOST_LONG ?a_MOST_PLACES ?a_MOST_SHADE
    (case a_0 => k_is); (case l_0 => k_is); (case c_0 => k_is); (case k_0 => k_is); (case a_1 => k_is); (case l_1 => k_is); (case c_1 => k_is); (case k_1 => k_is); (case a_2 => k_is); (case l_2 => k_is); (case c_2 => k_is); (case k_2 => k_is); (case a_3 => k_is); (case l_3 => k_is); (case c_3 => k_is); (case k_3 => k_is); (case a_4 => k_is); (case l_4 => k_is); (case c_4 => k_is); (case k_4 => k_is); (case a_5 => k_is); (case l_5 => k_is); (case c_5 => k_is); (case k_5 => k_is); (case a_6 => k_is); (case l_6 => k_is); (case c_6 => k_is); (case k_6 => k_is); (case a_7 => k_is); (case l_7 => k_is); (case c_7 => k_is); (case k_7 => k_is); (case a_8 => k_is); (case l_8 => k_is); (case c_8 => k_is); (case k_8 => k_is); (case a_9 => k_is); (case l_9 => k_is); (case c_9 => k_is); (case k_9 => k_is); (case a_10 => k_is); (case l_10 => k_is); (case c_10 => k_is); (case k_10 => k_is); (case a_11 => k_is); (case l_11 => k_is); (case c_11 => k_is); (case k_11 => k_is); (case a_12 => k_is); (case l_12 => k_is); (case c_12 => k_is); (case k_12 => k_is); (case a_13 => k_is); (case l_13 => k_is); (case c_13 => k_is); (case k_13 => k_is); (case a_14 => k_is); (case l_14 => k_is); (case c_14 => k_is); (case k_14 => k_is); (case a_15 => k_is); (case l_15 => k_is); (case c_15 => k_is); (case k_15 => k_is); (case a_16 => k_is); (case l_16 => k_is); (case c_16 => k_is); (case k_16 => k_is); (case a_17 => k_is); (case l_17 => k_is); (case c_17 => k_is); (case k_17 => k_is); (case a_18 => k_is); (case l_18 => k_is); (case c_18 => k_is); (case k_18 => k_is); (case a_19 => k_is); (case l_19 => k_is); (case c_19 => k_is); (case k_19 => k_is); (case a_20 => k_is); (case l_20 => k_is); (case c_20 => k_is); (case k_20 => k_is); (case a_21 => k_is); (case l_21 => k_is); (case c_21 => k_is); (case k_21 => k_is); (case a_22 => k_is); (case l_22 => k_is); (case c_22 => k_is); (case k_22 => k_is); (case a_23 => k_is); (case l_23 => k_is); (case c_23 => k_is); (case k_23 => k_is); (case a_24 => k_is); (case l_24 => k_is); (case c_24 => k_is); (case k_24 => k_is); (case a_25 => k_is); (case l_25 => k_is); (case c_25 => k_is); (case k_25 => k_is); (case a_26 => k_is); (case l_26 => k_is); (case c_26 => k_is); (case k_26 => k_is); (case a_27 => k_is); (case l_27 => k_is); (case c_27 => k_is); (case k_27 => k_is); (case a_28 => k_is); (case l_28 => k_is); (case c_28 => k_is); (case k_28 => k_is); (case a_29 => k_is); (case l_29 => k_is); (case c_29 => k_is); (case k_29 => k_is); (case a_30 => k_is); (case l_30 => k_is); (case c_30 => k_is); (case k_30 => k_is); (case z_abs => k_is); (case z_all => k_is); (case z_bool => k_is); (case z_enumerate => k_is); (case z_int => k_is); (case z_isinstance => k_is); (case z_len => k_is); (case z_list => k_is); (case z_max => k_is); (case z_min => k_is); (case z_range => k_is); (case z_repr => k_is); (case z_sorted => k_is); (case z_sum => k_is); (case z_tuple => k_is); (case z_zip => k_is); (case a_MOST_BATCH => k_is); (case a_MOST_KINDS => k_is); (case a_MOST_KINDS_HERE => k_is); (case a_MOST_LONG => k_is); (case a_MOST_PLACES => k_is); (case a_MOST_SHADE => k_is)
