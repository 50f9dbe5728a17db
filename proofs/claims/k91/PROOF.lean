import PyProof.Rows.All
import Wide.All
import OpenK.AllK
import Wide.FinOn
import HandS.ForMost
import HandS.Walk
import HandS.TupAny
import HandS.TupMul
import HandS.ExcOwn
import HandS.WordsExc
import HandS.Lambda
import HandS.HotCalls
import HandS.ExcField
import HandS.ExcIs
import HandS.ExcInit
import HandS.TryOnly
import KE.KExcIs
import KE.KIsAll
import HandS.EndTab
import HandS.TupLen
import HandS.DictTup
import KE.DataEq
import KE.DataFind
import KE.DataIsa
import KE.DataCmp
import KE.SortData
import HandS.Flow
import HandS.Style
import HandS.Wide
import HandS.Codes
import KE.DataAny
import KE.DataMinMax
import KE.DatumIndex
import HandS.Strs
import KE.KTupSum
import KE.GoesNew
import HandS.Small
import PyProof.FitsInt
import HandS.SortKw
import PyProof.TupleOfSeq
import HandS.Conv
import KE.DatumOrd
import HandS.More
import HandS.RaiseMore
import KE.KDictPairs
import HandS.Exc
import KE.SortKeyHeap
import KE.KItemsList
import HandS.WideBits
import PyProof.ExcBaseAll.ValueError
import PyProof.OldK
import KE.IntTextLaws
import PySem.Challenge.RW_bentstones_k91_paths_written_and_read
set_option Elab.async false
set_option autoImplicit false
set_option linter.all false
set_option maxRecDepth 100000
set_option maxHeartbeats 4000000
namespace PV
open PySem PySem.Spec PyProof.Rows L2
section
/-! ## tuples made, their objects known: no dict of their own -/
section
variable {X : Cx} {pins : List (Addr × Obj)} {σ : L2.St} {H : Hp} {s : Shared}
abbrev tupO (its : Array Value) : Obj := { cls := .type "tuple", data := .seq its }
/-- a tuple new on the heap, its object pinned -/
theorem tup_laid {us : List Value} {xs : List V} {tk : Nat} (I : Inv X pins σ H s) (r : L2.Vals xs us) (z : xs.length ≤ sizeLine) :
    Inv X pins σ (upd H s.heap.objs.size (.frz (tupO us.toArray) (.tup xs))) { s with heap := s.heap.push (tupO us.toArray), toks := tk } ∧ H s.heap.objs.size = none := by
  have get : (s.heap.push (tupO us.toArray)).get? s.heap.objs.size = some (tupO us.toArray) := Heap.get?_push_size _ rfl
  refine ⟨I.laid (fun b ob e => Heap.get?_push_of_some _ e) (Nat.le_refl _) ?_, I.hok.fresh (Nat.le_refl _)⟩
  exact ⟨get, z, us, r, ⟨_, get, rfl, _, rfl⟩⟩
/-- what a rule hands on: the tuple's object has no dict -/
def NewT (H : Hp) (Q : VK) (xs : List V) : Prop := ∀ (p : Addr) (ob : Obj), H p = none → ob.dict = none → Q (.ref p) (upd H p (.frz ob (.tup xs)))
theorem NewT.at' {Q : VK} {us : List Value} {xs : List V} {tk : Nat} (q : NewT H Q xs) (I : Inv X pins σ H s) (r : L2.Vals xs us) (z : xs.length ≤ sizeLine) : EP X pins σ Q (.ref s.heap.objs.size) { s with heap := s.heap.push (tupO us.toArray), toks := tk } := by
  obtain ⟨J, n⟩ := tup_laid (tk := tk) I r z
  exact ⟨.ref s.heap.objs.size, _, J, rfl, q _ _ n rfl⟩
theorem pe_tupN {es : List Expr} {t : TA} {j : Nat} {pos : Pos} (h : PA X es t) : PE X (.Tuple es j pos) (fun σ H Q => t σ H fun xs H1 => xs.length ≤ sizeLine ∧ NewT H1 Q xs) := by
  refine ⟨fun pins s σ H Q I ht => wpAny_Tuple_spliced (thn (h.run pos pins s σ H _ I ht) fun us s1 hu => ?_)⟩
  obtain ⟨xs, H1, J, r, z, q⟩ := hu
  exact ⟨r.length ▸ z, q.at' (tk := s1.toks) J r z⟩
theorem op_catN : OpR X (binaryOp .Add) (fun x y H Q => ∃ a b xs ys, x = .ref a ∧ y = .ref b ∧ SqT X.K H a xs ∧ SqT X.K H b ys ∧ xs.length + ys.length ≤ sizeLine ∧ (xs = [] → Q (.ref b) H) ∧ (xs ≠ [] → ys = [] → Q (.ref a) H) ∧ (xs ≠ [] → ys ≠ [] → NewT H Q (xs ++ ys))) := by
  intro pins s σ H x y v u Q I rx ry h
  obtain ⟨a, b, xs, ys, rfl, rfl, ha, hb, hz, q0, q1, q2⟩ := h
  cases rx; cases ry
  obtain ⟨ia, ra, ta, _⟩ := I.tuple ha
  obtain ⟨ib, rb, tb, _⟩ := I.tuple hb
  rcases Classical.em (xs = []) with e | e
  · subst e
    cases ra
    exact cat_tup0 ta tb ⟨.ref b, H, I, rfl, q0 rfl⟩
  · have hl : ia.length + ib.length ≤ sizeLine := by rw [← ra.length, ← rb.length]; exact hz
    refine HT.cat_tup ta tb (fun w => e (ra.nil_iff.mp w)) (fun w => ⟨.ref a, H, I, rfl, q1 e (rb.nil_iff.mp w)⟩) (fun w => ?_) hl
    exact (q2 e (fun w2 => w (rb.nil_iff.mpr w2))).at' (tk := s.toks) I (ra.append rb) (by rw [List.length_append]; exact hz)
theorem sl_tupN : SlR X (fun x lo hi H Q => ∃ a xs, x = .ref a ∧ SqT X.K H a xs ∧ (HT.sIx xs.length 0 lo = 0 ∧ HT.sIx xs.length xs.length hi = xs.length → Q (.ref a) H) ∧ (¬ (HT.sIx xs.length 0 lo = 0 ∧ HT.sIx xs.length xs.length hi = xs.length) → NewT H Q (cutV xs lo hi))) := by
  intro pins s σ H x v vl vu lo hi sl Q I rx hs pl pu h
  obtain ⟨a, xs, rfl, hx, q1, q2⟩ := h
  cases rx
  obtain ⟨its, r, ht, hz⟩ := I.tuple hx
  have n : its.toArray.size = xs.length := by rw [List.size_toArray, r.length]
  refine ⟨"tuple", _, PyProof.Rows.slot_tuple_getitem.lookup, ht.typeIs, ?_⟩
  rcases Classical.em (HT.sIx xs.length 0 lo = 0 ∧ HT.sIx xs.length xs.length hi = xs.length) with w | w
  · exact getItem_tuple_whole ht hs pl pu (n ▸ w) ⟨.ref a, H, I, rfl, q1 w⟩
  · refine HT.getItem_tuple_cut ht hs pl pu (by rw [n]; exact w) ?_ (by rw [n]; exact hz)
    rw [n]
    exact (q2 w).at' (tk := s.toks) I ((r.drop _).take _) (Nat.le_trans (cutV_length xs lo hi) hz)
theorem call_tupleN : CallR X (.type "tuple") (fun xs H Q => ∃ p ys, xs = [.ref p] ∧ ((SqL X.K H p ys ∧ NewT H Q ys) ∨ (SqT X.K H p ys ∧ Q (.ref p) H))) := by
  intro pins s σ H xs us Q I r h
  obtain ⟨p, ys, rfl, h⟩ := h
  obtain ⟨u, rfl, ru⟩ := vals1 r
  cases ru
  rcases h with h | h
  · obtain ⟨its, r2, pl, hz⟩ := I.list h.1
    have n := r2.length
    refine call_tuple_list pl.isList (fun h2 up => ?_) (by rw [List.size_toArray]; omega)
    exact h.2.at' (s := { s with heap := h2 }) (tk := s.toks) (I.kept (t' := s.toks) up) r2 hz
  · obtain ⟨its, _, pl, _⟩ := I.tuple h.1
    exact call_tuple_same pl ⟨.ref p, H, I, rfl, h.2⟩
theorem op_repN : OpR X (binaryOp .Mult) (fun x y H Q => ∃ a k xs, x = .ref a ∧ y = .int k ∧ SqT X.K H a xs ∧ xs ≠ [] ∧ 2 ≤ k ∧ k ≤ 1000 ∧ xs.length ≤ 1000 ∧ NewT H Q (List.replicate k.toNat xs).flatten) := by
  intro pins s σ H x y v u Q I rx ry h
  obtain ⟨a, k, xs, rfl, rfl, hT, hne, k2, k1000, hz, q⟩ := h
  cases rx
  obtain ⟨t, rfl⟩ := ry
  obtain ⟨its, r, ⟨⟨cls, dd, dat, sl⟩, ho, hc, n, hd⟩, _⟩ := I.tuple hT
  obtain rfl : cls = .type "tuple" := hc
  obtain rfl : dat = .seq its.toArray n := hd
  have len : its.length = xs.length := r.length.symm
  have ne : its.toArray.isEmpty = false := by
    cases its with
    | nil => exact absurd (List.eq_nil_of_length_eq_zero len.symm) hne
    | cons _ _ => rfl
  have sz : its.toArray.size = xs.length := by rw [List.size_toArray, len]
  have prod : ((its.toArray.size : Nat) : Int) * k ≤ 1000000 := by
    rw [sz]
    have := Int.mul_le_mul (show ((xs.length : Nat) : Int) ≤ 1000 by omega) k1000 (by omega) (by omega)
    omega
  have fl : ∀ {α : Type} (ys : List α), ys.length ≤ 1000 → (List.replicate k.toNat ys).flatten.length ≤ sizeLine := fun ys hy => by
    rw [PyProof.Rows.lm_len_rep_flat, sizeLine_eq]
    exact Nat.le_trans (Nat.mul_le_mul (show k.toNat ≤ 1000 by omega) hy) (by decide)
  have b0 : (decide (k < -(2 ^ 63)) || decide (k ≥ 2 ^ 63)) = false := by rw [decide_eq_false (by omega), decide_eq_false (by omega)]; rfl
  have b1 : (its.toArray.isEmpty || k == 1) = false := by rw [ne]; exact beq_eq_false_iff_ne.mpr (by omega)
  have b2 : (decide (k ≤ 0) || its.toArray.isEmpty) = false := by rw [ne, decide_eq_false (by omega)]; rfl
  have b4 : Builtin.Tuple.tupleTooMany (((its.toArray.size : Nat) : Int) * k) = false := by
    unfold Builtin.Tuple.tupleTooMany
    rw [sizeLine_eq, decide_eq_false]
    omega
  refine wpAny_binaryOp_repeat_ref (T := "tuple") (U := "int") (by decide) ⟨_, ho, rfl⟩ (fun s2 => typeIs_int s2 k t) noFill_tuple_mul F.fills_int_mul F.slot_int_rmul repeat_tuple F.slot_int_index.lookup (call_meets F.slot_int_rmul (typeIs_int s k t) F.entry_int_rmul (F.args_int_rmul_2 _ _) (int_rmul_tuple k t a its.toArray n dd sl) ⟨ho, rfl, ⟨_, ho, rfl⟩, ?_⟩)
  refine call_meets F.slot_tuple_mul ⟨_, ho, rfl⟩ F.entry_tuple_mul (F.args_tuple_mul_2 _ _) (tuple_mulW a its.toArray n dd sl k t b0 b1 b2 (by omega) b4 (by rw [size_rep, List.size_toArray]; exact fl its (by omega))) ⟨ho, ?_⟩
  rw [size_rep]
  exact q.at' (tk := s.toks) I (r.rep k.toNat) (fl xs hz)
end
end
section
/-! ## results, values, the store -/
/-- the tuples that the module's top has written, with those within -/
class Wtp where
  W : List PyData
  F : Bool
inductive Wv where
  | d (x : PyData)
  | r (i : Nat)
  /-- the exception that is handled -/
  | x (a : Addr) (c : Str) (d : Option (Addr × List (Str × PyData)))
inductive Ob where
  | lst (xs : List PyData)
  | dct (kvs : List (PyData × PyData))
  /-- a dict whose keys are tuples -/
  | dtt (kvs : List (PyData × PyData))
  /-- a dict that is pinned: nobody writes it any more -/
  | lkd (es : List (PyData × PyData))
  /-- a list that is pinned -/
  | lkl (xs : List PyData)
  /-- an instance of the class at C, its attributes -/
  | ins (C : Addr) (es : List (Str × PyData))
abbrev Sto := List Ob
abbrev En := List (Option Wv)
structure Xc where
  name : Str
  fs : List (Str × PyData)
inductive Rs (α : Type) where
  | ok (a : α) (st : Sto)
  | ex (e : Xc) (st : Sto)
  | no
namespace Rs
variable {α β : Type}
def bind (x : Rs α) (f : α → Sto → Rs β) : Rs β := match x with
  | .ok a st => f a st
  | .ex e st => .ex e st
  | .no => .no
/-- what holds at the end -/
def post (x : Rs α) (Q : α → Sto → Prop) (W : Xc → Sto → Prop) : Prop := match x with
  | .ok a st => Q a st
  | .ex e st => W e st
  | .no => False
@[simp] theorem bind_ok (a : α) (st : Sto) (f : α → Sto → Rs β) : (Rs.ok a st).bind f = f a st := rfl
@[simp] theorem bind_ex (e : Xc) (st : Sto) (f : α → Sto → Rs β) : (Rs.ex e st : Rs α).bind f = .ex e st := rfl
@[simp] theorem bind_no (f : α → Sto → Rs β) : (Rs.no : Rs α).bind f = .no := rfl
@[simp] theorem post_ok (a : α) (st : Sto) (Q : α → Sto → Prop) (W : Xc → Sto → Prop) : (Rs.ok a st).post Q W = Q a st := rfl
@[simp] theorem post_ex (e : Xc) (st : Sto) (Q : α → Sto → Prop) (W : Xc → Sto → Prop) : (Rs.ex e st : Rs α).post Q W = W e st := rfl
@[simp] theorem post_no (Q : α → Sto → Prop) (W : Xc → Sto → Prop) : (Rs.no : Rs α).post Q W = False := rfl
theorem post_bind (x : Rs α) (f : α → Sto → Rs β) (Q : β → Sto → Prop) (W : Xc → Sto → Prop) : (x.bind f).post Q W = x.post (fun a st => (f a st).post Q W) W := by cases x <;> rfl
theorem post_mono {x : Rs α} {Q Q' : α → Sto → Prop} {W W' : Xc → Sto → Prop} (h : x.post Q W) (hQ : ∀ a st, Q a st → Q' a st) (hW : ∀ e st, W e st → W' e st) : x.post Q' W' := by
  cases x with
  | ok a st => exact hQ a st h
  | ex e st => exact hW e st h
  | no => exact h
end Rs
/-- a value as data, as it is now -/
def look (st : Sto) : Wv → Option PyData
  | .d x => some x
  | .r i => match st[i]? with
    | some (.lst xs) => some (.list xs)
    | some (.dct kvs) => some (.dict kvs)
    | some (.dtt kvs) => some (.dict kvs)
    | some (.lkd kvs) => some (.dict kvs)
    | some (.lkl xs) => some (.list xs)
    | some (.ins _ _) => none
    | none => none
  | .x _ _ _ => none
@[simp] theorem look_d (st : Sto) (x : PyData) : look st (.d x) = some x := rfl
/-! ## data as it stands in the heap -/
abbrev Frg := PySem.W.Frag
def WrL (K : Frg) (a : Addr) (xs : List V) : Prop := ∃ (vs : Array Value) (k : Nat), K.lookup a = some { cls := .type "list", data := .seq vs k } ∧ vs.size ≤ sizeLine ∧ Vals xs vs.toList
def LsAt (K : Frg) (H : Hp) (Z : Addr → Prop) (a : Addr) (xs : List V) : Prop := (H a = some (.lst xs) ∧ Z a) ∨ (∃ o, H a = some (.frz o (.lst xs))) ∨ WrL K a xs
theorem LsAt.sq {K : Frg} {H : Hp} {Z : Addr → Prop} {a : Addr} {xs : List V} (h : LsAt K H Z a xs) : SqL K H a xs := by
  rcases h with ⟨h, _⟩ | ⟨o, h⟩ | h
  · exact .inl (.inl h)
  · exact .inl (.inr ⟨o, h⟩)
  · obtain ⟨vs, k, h1, h2, h3⟩ := h
    exact .inr ⟨_, vs, k, h1, rfl, rfl, rfl, h2, h3⟩
/-- a list, whoever holds it -/
abbrev LsX (K : Frg) (H : Hp) (a : Addr) (xs : List V) : Prop := LsAt K H (fun _ => True) a xs
theorem LsAt.x {K : Frg} {H : Hp} {Z : Addr → Prop} {a : Addr} {xs : List V} (h : LsAt K H Z a xs) : LsX K H a xs := by
  rcases h with ⟨h, _⟩ | h | h
  · exact .inl ⟨h, trivial⟩
  · exact .inr (.inl h)
  · exact .inr (.inr h)
theorem Inv.lsx {X : Cx} {pins : List (Addr × Obj)} {σ : L2.St} {H : Hp} {s : Shared} {Z : Addr → Prop} {a : Addr} {xs : List V} (I : Inv X pins σ H s) (h : LsAt X.K H Z a xs) :
    ∃ (its : List Value) (n : Nat), Vals xs its ∧ s.heap.get? a = some { cls := .type "list", data := .seq its.toArray n } ∧ xs.length ≤ sizeLine ∧ its.length = xs.length := by
  rcases h with ⟨h, _⟩ | ⟨o, h⟩ | ⟨vs, k, h1, h2, h3⟩
  · obtain ⟨z, its, n, r, e⟩ := I.hok a _ h
    exact ⟨its, n, r, e, z, r.length.symm⟩
  · obtain ⟨_, z, its, n, r, e⟩ := I.hok a _ h
    exact ⟨its, n, r, e, z, r.length.symm⟩
  · have e := h3.length
    exact ⟨vs.toList, k, h3, I.kIn a _ h1, by simp only [Array.length_toList] at e; omega, e.symm⟩
def keyD : PyData → Option Key
  | .int i => some (.inl i)
  | .str x => some (.inr x)
  | _ => none
def keysD : List PyData → Option (List Key)
  | [] => some []
  | d :: r => match keyD d, keysD r with
    | some k, some ks => some (k :: ks)
    | _, _ => none
def tkD : PyData → Option (List Key)
  | .tuple xs => keysD xs
  | _ => none
variable [Wtp]
/-- an object of the program's own: a tuple without a dict -/
def PlT (K : Frg) (a : Addr) : Prop := ∃ o : Obj, K.lookup a = some o ∧ o.cls = .type "tuple" ∧ o.dict = none
/-- a tuple of its own, or one that the top has written -/
def TpAt (K : Frg) (H : Hp) (a : Addr) (xs : List V) (ds : List PyData) : Prop := (Wtp.F = false ∧ H a = some (.tup xs)) ∨ (SqT K H a xs ∧ PyData.tuple ds ∈ Wtp.W ∧ PlT K a) ∨ (Wtp.F = true ∧ ∃ o : Obj, H a = some (.frz o (.tup xs)) ∧ o.dict = none)
/-- a tuple that the top has not written, and that is tracked -/
def NoW (c : PyData) : Prop := c ∉ Wtp.W ∧ Wtp.F = false
theorem TpAt.sq {K : Frg} {H : Hp} {a : Addr} {xs : List V} {ds : List PyData} (h : TpAt K H a xs ds) : SqT K H a xs := by
  rcases h with h | h | ⟨_, o, h, _⟩
  · exact .inl (.inl h.2)
  · exact h.1
  · exact .inl (.inr ⟨o, h⟩)
mutual
inductive Rp (K : Frg) (H : Hp) (Z : Addr → Prop) : V → PyData → Prop
  | non : Rp K H Z .non .none
  | bl (b : Bool) : Rp K H Z (.bl b) (.bool b)
  | int (i : Int) : Rp K H Z (.int i) (.int i)
  | str (x : Str) : Rp K H Z (.str x) (.str x)
  | lst {a : Addr} {xs : List V} {ds : List PyData} : LsAt K H Z a xs → RpA K H Z xs ds → Rp K H Z (.ref a) (.list ds)
  | tup {a : Addr} {xs : List V} {ds : List PyData} : TpAt K H a xs ds → RpA K H Z xs ds → Rp K H Z (.ref a) (.tuple ds)
  | dic {a : Addr} {o : Obj} {kvs : List (Key × V)} {es : List (PyData × PyData)} : H a = some (.frz o (.dK kvs)) → RpK K H Z kvs es → Rp K H Z (.ref a) (.dict es)
  | dit {a : Addr} {o : Obj} {kvs : List (List Key × V)} {es : List (PyData × PyData)} : H a = some (.frz o (.dT kvs)) → RpT K H Z kvs es → Rp K H Z (.ref a) (.dict es)
inductive RpA (K : Frg) (H : Hp) (Z : Addr → Prop) : List V → List PyData → Prop
  | nil : RpA K H Z [] []
  | cons {v : V} {vs : List V} {d : PyData} {ds : List PyData} : Rp K H Z v d → RpA K H Z vs ds → RpA K H Z (v :: vs) (d :: ds)
inductive RpK (K : Frg) (H : Hp) (Z : Addr → Prop) : List (Key × V) → List (PyData × PyData) → Prop
  | nil : RpK K H Z [] []
  | cons {k : Key} {v : V} {kvs : List (Key × V)} {c d : PyData} {es : List (PyData × PyData)} : keyD c = some k → Rp K H Z v d → RpK K H Z kvs es → RpK K H Z ((k, v) :: kvs) ((c, d) :: es)
inductive RpT (K : Frg) (H : Hp) (Z : Addr → Prop) : List (List Key × V) → List (PyData × PyData) → Prop
  | nil : RpT K H Z [] []
  | cons {k : List Key} {v : V} {kvs : List (List Key × V)} {c d : PyData} {es : List (PyData × PyData)} : tkD c = some k → Rp K H Z v d → RpT K H Z kvs es → RpT K H Z ((k, v) :: kvs) ((c, d) :: es)
end
/-- no table of code objects -/
def NT (o : HO) : Prop := ∀ ps, o ≠ .tbl ps
theorem nt_lst {xs : List V} : NT (.lst xs) := fun _ z => nomatch z
theorem nt_dK {xs : List (Key × V)} : NT (.dK xs) := fun _ z => nomatch z
theorem nt_dT {xs : List (List Key × V)} : NT (.dT xs) := fun _ z => nomatch z
/-- something stands there, and no table -/
def Nn (H : Hp) (a : Addr) : Prop := ∃ o, H a = some o ∧ NT o
theorem Nn.ne {H : Hp} {a : Addr} (h : Nn H a) : H a ≠ none := by obtain ⟨o, e, _⟩ := h; rw [e]; exact fun z => nomatch z
theorem nn_no {H : Hp} {a : Addr} (h : H a = none) : ¬ Nn H a := fun q => q.ne h
/-- a list -/
def LsO (o : HO) : Prop := ∃ xs, o = .lst xs
theorem LsO.nt {o : HO} (h : LsO o) : NT o := by obtain ⟨xs, rfl⟩ := h; exact nt_lst
/-- what data lean on is kept -/
structure Kp (K : Frg) (H : Hp) (Z : Addr → Prop) (H' : Hp) (Z' : Addr → Prop) : Prop where
  tup : ∀ a xs, H a = some (.tup xs) → H' a = some (.tup xs)
  frz : ∀ a o u, H a = some (.frz o u) → H' a = some (.frz o u)
  rest : ∀ a o, LsO o → H a = some o → Z a → H' a = some o ∧ Z' a
section
variable {K : Frg} {H H' H'' : Hp} {Z Z' Z'' : Addr → Prop}
theorem Kp.refl : Kp K H Z H Z := ⟨fun _ _ h => h, fun _ _ _ h => h, fun _ _ _ h z => ⟨h, z⟩⟩
theorem Kp.trans (p : Kp K H Z H' Z') (q : Kp K H' Z' H'' Z'') : Kp K H Z H'' Z'' :=
  ⟨fun a xs h => q.tup a xs (p.tup a xs h), fun a o u h => q.frz a o u (p.frz a o u h), fun a o nt h z => let ⟨h1, z1⟩ := p.rest a o nt h z; q.rest a o nt h1 z1⟩
theorem Kp.sqt (p : Kp K H Z H' Z') {a : Addr} {xs : List V} (h : SqT K H a xs) : SqT K H' a xs := by
  rcases h with (h | ⟨o, h⟩) | h
  · exact .inl (.inl (p.tup _ _ h))
  · exact .inl (.inr ⟨o, p.frz _ _ _ h⟩)
  · exact .inr h
theorem Kp.tp (p : Kp K H Z H' Z') {a : Addr} {xs : List V} {ds : List PyData} (h : TpAt K H a xs ds) : TpAt K H' a xs ds := by
  rcases h with h | h | ⟨z, o, h, n⟩
  · exact .inl ⟨h.1, p.tup _ _ h.2⟩
  · exact .inr (.inl ⟨p.sqt h.1, h.2⟩)
  · exact .inr (.inr ⟨z, o, p.frz _ _ _ h, n⟩)
theorem Kp.ls (p : Kp K H Z H' Z') {a : Addr} {xs : List V} (h : LsAt K H Z a xs) : LsAt K H' Z' a xs := by
  rcases h with ⟨h, z⟩ | ⟨o, h⟩ | h
  · exact .inl (p.rest _ _ ⟨_, rfl⟩ h z)
  · exact .inr (.inl ⟨o, p.frz _ _ _ h⟩)
  · exact .inr (.inr h)
mutual
theorem Rp.kp (p : Kp K H Z H' Z') : ∀ (d : PyData) (v : V), Rp K H Z v d → Rp K H' Z' v d
  | .none, _, h => by cases h; exact .non
  | .bool b, _, h => by cases h; exact .bl b
  | .int i, _, h => by cases h; exact .int i
  | .str x, _, h => by cases h; exact .str x
  | .list ds, _, h => by cases h with | lst h1 h2 => exact .lst (p.ls h1) (RpA.kp p ds _ h2)
  | .tuple ds, _, h => by cases h with | tup h1 h2 => exact .tup (p.tp h1) (RpA.kp p ds _ h2)
  | .dict es, _, h => by
    cases h with
    | dic h1 h3 => exact .dic (p.frz _ _ _ h1) (RpK.kp p es _ h3)
    | dit h1 h3 => exact .dit (p.frz _ _ _ h1) (RpT.kp p es _ h3)
theorem RpA.kp (p : Kp K H Z H' Z') : ∀ (ds : List PyData) (vs : List V), RpA K H Z vs ds → RpA K H' Z' vs ds
  | [], _, h => by cases h; exact .nil
  | d :: ds, _, h => by cases h with | cons h1 h2 => exact .cons (Rp.kp p d _ h1) (RpA.kp p ds _ h2)
theorem RpK.kp (p : Kp K H Z H' Z') : ∀ (es : List (PyData × PyData)) (kvs : List (Key × V)), RpK K H Z kvs es → RpK K H' Z' kvs es
  | [], _, h => by cases h; exact .nil
  | (c, d) :: es, _, h => by cases h with | cons h0 h1 h2 => exact .cons h0 (Rp.kp p d _ h1) (RpK.kp p es _ h2)
theorem RpT.kp (p : Kp K H Z H' Z') : ∀ (es : List (PyData × PyData)) (kvs : List (List Key × V)), RpT K H Z kvs es → RpT K H' Z' kvs es
  | [], _, h => by cases h; exact .nil
  | (c, d) :: es, _, h => by cases h with | cons h0 h1 h2 => exact .cons h0 (Rp.kp p d _ h1) (RpT.kp p es _ h2)
end
theorem Rp.mv {v : V} {d : PyData} (h : Rp K H Z v d) (p : Kp K H Z H' Z') : Rp K H' Z' v d := Rp.kp p d v h
theorem RpA.mv {vs : List V} {ds : List PyData} (h : RpA K H Z vs ds) (p : Kp K H Z H' Z') : RpA K H' Z' vs ds := RpA.kp p ds vs h
theorem RpA.len : ∀ {vs : List V} {ds : List PyData}, RpA K H Z vs ds → vs.length = ds.length
  | [], [], _ => rfl
  | _ :: vs, _ :: ds, h => by cases h with | cons _ h => simp [RpA.len h]
  | [], _ :: _, h => by cases h
  | _ :: _, [], h => by cases h
theorem RpA.get : ∀ {vs : List V} {ds : List PyData} {i : Nat} {d : PyData}, RpA K H Z vs ds → ds[i]? = some d → ∃ v, vs[i]? = some v ∧ Rp K H Z v d
  | [], [], i, d, _, e => by simp at e
  | v :: vs, c :: ds, 0, d, h, e => by
    cases h with
    | cons h1 h2 =>
      simp at e
      subst e
      exact ⟨v, rfl, h1⟩
  | v :: vs, c :: ds, i + 1, d, h, e => by
    cases h with
    | cons h1 h2 =>
      obtain ⟨u, hu, r⟩ := RpA.get (i := i) h2 (by simpa using e)
      exact ⟨u, by simpa using hu, r⟩
  | [], _ :: _, _, _, h, _ => by cases h
  | _ :: _, [], _, _, h, _ => by cases h
theorem RpA.app : ∀ {vs ws : List V} {ds es : List PyData}, RpA K H Z vs ds → RpA K H Z ws es → RpA K H Z (vs ++ ws) (ds ++ es)
  | [], _, [], _, _, h => h
  | _ :: _, _, _ :: _, _, .cons h1 h2, h => .cons h1 (RpA.app h2 h)
theorem RpA.drop : ∀ {vs : List V} {ds : List PyData} (n : Nat), RpA K H Z vs ds → RpA K H Z (vs.drop n) (ds.drop n)
  | _, _, 0, h => h
  | [], [], _ + 1, h => h
  | _ :: _, _ :: _, n + 1, .cons _ h => RpA.drop n h
theorem RpA.take : ∀ {vs : List V} {ds : List PyData} (n : Nat), RpA K H Z vs ds → RpA K H Z (vs.take n) (ds.take n)
  | _, _, 0, _ => .nil
  | [], [], _ + 1, _ => .nil
  | _ :: _, _ :: _, n + 1, .cons h1 h => .cons h1 (RpA.take n h)
theorem RpA.set {v : V} {d : PyData} (r : Rp K H Z v d) : ∀ {vs : List V} {ds : List PyData} (n : Nat), RpA K H Z vs ds → RpA K H Z (vs.set n v) (ds.set n d)
  | [], [], _, h => h
  | _ :: _, _ :: _, 0, .cons _ h => .cons r h
  | _ :: _, _ :: _, n + 1, .cons h1 h => .cons h1 (RpA.set r n h)
theorem RpA.rev : ∀ {vs : List V} {ds : List PyData}, RpA K H Z vs ds → RpA K H Z vs.reverse ds.reverse
  | [], [], h => h
  | _ :: _, _ :: _, .cons h1 h => by
    rw [List.reverse_cons, List.reverse_cons]
    exact (RpA.rev h).app (.cons h1 .nil)
end
/-! ## the real heap reads as the data -/
section
variable {X : Cx} {pins : List (Addr × Obj)} {σ : L2.St} {H : Hp} {s : Shared} {Z : Addr → Prop}
/-- the dict of the modules stands in its place -/
def SysM (h : Heap) : Prop := ∃ (o : Obj) (es : Array DictEntry) (ep : Nat), h.get? sysModules = some o ∧ o.data = .dict es ep
/-- no list, no tuple stands there -/
theorem SysM.seq {h : Heap} {a : Addr} {o : Obj} {vs : Array Value} {n : Nat} (S : SysM h) (e : h.get? a = some o) (d : o.data = .seq vs n) : sysModules ≠ a := fun z => by
  obtain ⟨o', es, ep, e', d'⟩ := S
  rw [z, e] at e'
  cases e'
  rw [d] at d'
  cases d'
theorem SysM.up {h h' : Heap} (S : SysM h) (k : ∀ b o, h.get? b = some o → h'.get? b = some o) : SysM h' := by
  obtain ⟨o, es, ep, e, d⟩ := S
  exact ⟨o, es, ep, k _ _ e, d⟩
theorem off_cons {a : Addr} {as : List Addr} (h : sysModules ≠ a) (h' : sysModules ∉ as) : sysModules ∉ a :: as := fun z => by
  rcases List.mem_cons.mp z with z | z
  · exact h z
  · exact h' z
theorem off_app {as bs : List Addr} (h : sysModules ∉ as) (h' : sysModules ∉ bs) : sysModules ∉ as ++ bs := fun z => by
  rcases List.mem_append.mp z with z | z
  · exact h z
  · exact h' z
theorem off_nil : sysModules ∉ ([] : List Addr) := List.not_mem_nil
theorem keyD_rel {h : Heap} {d : PyData} {k : Key} {u : Value} (e : keyD d = some k) (r : RelV (kV k) u) : Reads h u d [] := by
  cases d with
  | int i => cases e; obtain ⟨t, rfl⟩ := r; exact .int i t
  | str x => cases e; obtain ⟨t, rfl⟩ := r; exact .str x t
  | _ => cases e
theorem keysD_reads {h : Heap} : ∀ {ds : List PyData} {ks : List Key} {us : List Value}, keysD ds = some ks → Vals (ks.map kV) us → ReadsAll h us ds []
  | [], ks, us, e, r => by
    cases e
    cases r
    exact .nil
  | d :: ds, ks, us, e, r => by
    unfold keysD at e
    split at e
    · rename_i k ks' e1 e2
      cases e
      cases r with
      | cons r1 r2 => exact .cons (as := []) (bs := []) (keyD_rel (h := h) e1 r1) (keysD_reads (h := h) e2 r2)
    · cases e
theorem tkD_reads (I : Inv X pins σ H s) {c : PyData} {k : List Key} {b : Addr} (e : tkD c = some k) (hb : H b = some (.tup (k.map kV))) : ∃ as, Reads s.heap (.ref b) c as ∧ (SysM s.heap → sysModules ∉ as) := by
  cases c with
  | tuple ds =>
    obtain ⟨its, rv, ⟨o, ho, hc, n, hd⟩, _⟩ := I.tuple (.inl (.inl hb))
    exact ⟨_, .tuple ho hc hd (keysD_reads (h := s.heap) (show keysD ds = some k from e) rv), fun _ => off_nil⟩
  | _ => cases e
theorem keyD_reads {h : Heap} {c : PyData} {k : Key} {u : Value} (e : keyD c = some k) (hk : keyIs k u = true) : Reads h u c [] := by
  cases c with
  | int i =>
    cases e
    rcases keyIs_shape hk with ⟨j, t, e1, rfl⟩ | ⟨x, t, e1, rfl⟩
    · cases e1; exact .int _ _
    · cases e1
  | str x =>
    cases e
    rcases keyIs_shape hk with ⟨j, t, e1, rfl⟩ | ⟨x, t, e1, rfl⟩
    · cases e1
    · cases e1; exact .str _ _
  | _ => cases e
mutual
/-- what is read lies beside the modules' dict -/
theorem Rp.readsM (I : Inv X pins σ H s) : ∀ (d : PyData) (v : V) (u : Value), Rp X.K H Z v d → RelV v u → ∃ as, Reads s.heap u d as ∧ (SysM s.heap → sysModules ∉ as)
  | .none, _, _, h, r => by cases h; cases r; exact ⟨_, .none, fun _ => off_nil⟩
  | .bool b, _, _, h, r => by cases h; cases r; exact ⟨_, .bool b, fun _ => off_nil⟩
  | .int i, _, _, h, r => by cases h; obtain ⟨t, rfl⟩ := r; exact ⟨_, .int i t, fun _ => off_nil⟩
  | .str x, _, _, h, r => by cases h; obtain ⟨t, rfl⟩ := r; exact ⟨_, .str x t, fun _ => off_nil⟩
  | .list ds, _, _, h, r => by
    cases h with
    | lst hs ha =>
      cases r
      obtain ⟨its, rv, ⟨o, n, ho, hc, _, hd⟩, _⟩ := I.list hs.sq
      obtain ⟨as, hr, g⟩ := RpA.readsM I ds _ its ha rv
      exact ⟨_, .list ho hc hd hr, fun S => off_cons (S.seq ho hd) (g S)⟩
  | .tuple ds, _, _, h, r => by
    cases h with
    | tup hs ha =>
      cases r
      obtain ⟨its, rv, ⟨o, ho, hc, n, hd⟩, _⟩ := I.tuple hs.sq
      obtain ⟨as, hr, g⟩ := RpA.readsM I ds _ its ha rv
      exact ⟨_, .tuple ho hc hd hr, g⟩
  | .dict es, _, _, h, r => by
    cases h with
    | dic h1 h3 =>
      cases r
      obtain ⟨_, _, hm, vs, kv, o, ents, ep, ho, hc, hd, _, he, _⟩ := (show ObjOk X.prog X.w H s.heap _ (.frz _ (.dK _)) from I.hok _ _ h1)
      obtain ⟨as, bs, r1, r2, g1, g2⟩ := RpK.readsM I es _ vs ents.toList h3 kv he
      exact ⟨_, .dict ho hc.1 hd r1 r2, fun S => off_app (off_cons (fun z => by subst z; cases hm) (g1 S)) (g2 S)⟩
    | dit h1 h3 =>
      cases r
      obtain ⟨_, _, hm, xs, kt, o, ents, ep, ho, hc, hd, he, _⟩ := (show ObjOk X.prog X.w H s.heap _ (.frz _ (.dT _)) from I.hok _ _ h1)
      obtain ⟨as, bs, r1, r2, g1, g2⟩ := RpT.readsM I es _ xs h3 kt
      rw [← he] at r1 r2
      exact ⟨_, .dict ho hc.1 hd r1 r2, fun S => off_app (off_cons (fun z => by subst z; cases hm) (g1 S)) (g2 S)⟩
theorem RpA.readsM (I : Inv X pins σ H s) : ∀ (ds : List PyData) (vs : List V) (us : List Value), RpA X.K H Z vs ds → Vals vs us → ∃ as, ReadsAll s.heap us ds as ∧ (SysM s.heap → sysModules ∉ as)
  | [], _, _, h, r => by cases h; cases r; exact ⟨_, .nil, fun _ => off_nil⟩
  | d :: ds, _, _, h, r => by
    cases h with
    | cons h1 h2 =>
      cases r with
      | cons r1 r2 =>
        obtain ⟨as, q1, g1⟩ := Rp.readsM I d _ _ h1 r1
        obtain ⟨bs, q2, g2⟩ := RpA.readsM I ds _ _ h2 r2
        exact ⟨_, .cons q1 q2, fun S => off_app (g1 S) (g2 S)⟩
theorem RpK.readsM (I : Inv X pins σ H s) : ∀ (es : List (PyData × PyData)) (kvs : List (Key × V)) (vs : List (Key × Value)) (ents : List DictEntry), RpK X.K H Z kvs es → KV kvs vs →
    Pairs (mixKind X.prog X.w) ents vs → ∃ as bs, ReadsAll s.heap (ents.map (·.key)) (es.map (·.1)) as ∧ ReadsAll s.heap (ents.map (·.val)) (es.map (·.2)) bs ∧ (SysM s.heap → sysModules ∉ as) ∧ (SysM s.heap → sysModules ∉ bs)
  | [], _, _, _, h, r, p => by cases h; cases r; cases p; exact ⟨_, _, .nil, .nil, fun _ => off_nil, fun _ => off_nil⟩
  | (c, d) :: es, _, _, _, h, r, p => by
    cases h with
    | cons h0 h1 h2 =>
      cases r with
      | cons r1 r2 =>
        cases p with
        | cons p1 p2 p3 =>
          obtain ⟨as, bs, q1, q2, g1, g2⟩ := RpK.readsM I es _ _ _ h2 r2 p3
          obtain ⟨cs, q3, g3⟩ := Rp.readsM I d _ _ h1 r1.2
          have q4 := keyD_reads (h := s.heap) (c := c) (h0.trans (congrArg some r1.1)) p1
          exact ⟨_, _, .cons q4 q1, by rw [List.map_cons, List.map_cons, p2]; exact .cons q3 q2, fun S => off_app off_nil (g1 S), fun S => off_app (g3 S) (g2 S)⟩
theorem RpT.readsM (I : Inv X pins σ H s) : ∀ (es : List (PyData × PyData)) (kvs : List (List Key × V)) (xs : List (List Key × Addr × Value)), RpT X.K H Z kvs es → KT H kvs xs →
    ∃ as bs, ReadsAll s.heap ((xs.map (entryOfKey (tupleKind (mixKind X.prog X.w)))).map (·.key)) (es.map (·.1)) as ∧ ReadsAll s.heap ((xs.map (entryOfKey (tupleKind (mixKind X.prog X.w)))).map (·.val)) (es.map (·.2)) bs ∧ (SysM s.heap → sysModules ∉ as) ∧ (SysM s.heap → sysModules ∉ bs)
  | [], _, _, h, r => by cases h; cases r; exact ⟨_, _, .nil, .nil, fun _ => off_nil, fun _ => off_nil⟩
  | (c, d) :: es, _, _, h, r => by
    cases h with
    | cons h0 h1 h2 =>
      cases r with
      | cons r1 r2 =>
        obtain ⟨as, bs, q1, q2, g1, g2⟩ := RpT.readsM I es _ _ h2 r2
        obtain ⟨cs, q3, g3⟩ := Rp.readsM I d _ _ h1 r1.2.2
        obtain ⟨ds, q4, g4⟩ := tkD_reads I h0 r1.2.1
        exact ⟨_, _, .cons q4 q1, .cons q3 q2, fun S => off_app (g4 S) (g1 S), fun S => off_app (g3 S) (g2 S)⟩
end
theorem RpA.reads (I : Inv X pins σ H s) (ds : List PyData) (vs : List V) (us : List Value) (h : RpA X.K H Z vs ds) (r : Vals vs us) : ∃ as, ReadsAll s.heap us ds as := let ⟨as, q, _⟩ := RpA.readsM I ds vs us h r; ⟨as, q⟩
end
end
section
variable [Wtp]
/-! ## the store in the heap -/
structure Mp where
  ix : Nat → Addr
  F : Addr → Prop
/-- none of the store's objects, and none that is being made -/
def Off (m : Mp) (n : Nat) (a : Addr) : Prop := (∀ i, i < n → m.ix i ≠ a) ∧ ¬ m.F a
/-- an exception's own dict -/
def XdAt (K : Frg) (H : Hp) (m : Mp) (n : Nat) (dd : Addr) (es : List (Str × PyData)) : Prop := ∃ fs : List (Str × V), H dd = some (.xd fs) ∧ fs.map (·.1) = es.map (·.1) ∧ RpA K H (Off m n) (fs.map (·.2)) (es.map (·.2)) ∧ Off m n dd
def RW (K : Frg) (H : Hp) (m : Mp) (n : Nat) (v : V) : Wv → Prop
  | .d x => Rp K H (Off m n) v x
  | .r i => i < n ∧ v = .ref (m.ix i)
  | .x a _ d => v = .ref a ∧ ∀ p, d = some p → XdAt K H m n p.1 p.2
inductive RWs (K : Frg) (H : Hp) (m : Mp) (n : Nat) : List V → List Wv → Prop
  | nil : RWs K H m n [] []
  | cons {v : V} {vs : List V} {w : Wv} {ws : List Wv} : RW K H m n v w → RWs K H m n vs ws → RWs K H m n (v :: vs) (w :: ws)
/-- a pinned list -/
def FzL (K : Frg) (H : Hp) (Z : Addr → Prop) (a : Addr) (xs : List PyData) : Prop := ∃ o vs, H a = some (.frz o (.lst vs)) ∧ RpA K H Z vs xs
theorem FzL.mv {K : Frg} {H H' : Hp} {Z Z' : Addr → Prop} {a : Addr} {xs : List PyData} (h : FzL K H Z a xs) (p : Kp K H Z H' Z') : FzL K H' Z' a xs := let ⟨o, vs, h1, h2⟩ := h; ⟨o, vs, p.frz _ _ _ h1, h2.mv p⟩
theorem FzL.rp {K : Frg} {H : Hp} {Z : Addr → Prop} {a : Addr} {xs : List PyData} (h : FzL K H Z a xs) : Rp K H Z (.ref a) (.list xs) := let ⟨_, _, h1, h2⟩ := h; .lst (.inr (.inl ⟨_, h1⟩)) h2
/-- an instance -/
def InAt (K : Frg) (H : Hp) (Z : Addr → Prop) (a C : Addr) (es : List (Str × PyData)) : Prop := ∃ dx fs, H a = some (.ins C dx fs) ∧ fs.map (·.1) = es.map (·.1) ∧ RpA K H Z (fs.map (·.2)) (es.map (·.2))
theorem InAt.mv {K : Frg} {H H' : Hp} {Z Z' : Addr → Prop} {a C : Addr} {es : List (Str × PyData)} (h : InAt K H Z a C es) (p : Kp K H Z H' Z') (e : ∀ dx fs, H a = some (.ins C dx fs) → H' a = some (.ins C dx fs)) : InAt K H' Z' a C es := let ⟨dx, fs, h1, h2, h3⟩ := h; ⟨dx, fs, e _ _ h1, h2, h3.mv p⟩
def ObAt (K : Frg) (H : Hp) (m : Mp) (n : Nat) (a : Addr) : Ob → Prop
  | .lst xs => ∃ vs, H a = some (.lst vs) ∧ RpA K H (Off m n) vs xs
  | .dct kvs => ∃ ks, H a = some (.dK ks) ∧ RpK K H (Off m n) ks kvs
  | .dtt kvs => ∃ ks, H a = some (.dT ks) ∧ RpT K H (Off m n) ks kvs
  | .lkd kvs => Rp K H (Off m n) (.ref a) (.dict kvs)
  | .lkl xs => FzL K H (Off m n) a xs
  | .ins C es => InAt K H (Off m n) a C es
/-- the tables of code objects that the law's own defs make lambdas with -/
class Tbl where
  T : List (Addr × Str)
structure Sim [Tbl] (K : Frg) (H : Hp) (m : Mp) (st : Sto) : Prop where
  ob : ∀ (i : Nat) o, st[i]? = some o → ObAt K H m st.length (m.ix i) o
  inj : ∀ i j, i < st.length → j < st.length → m.ix i = m.ix j → i = j
  ff : ∀ a, m.F a → Nn H a
  fi : ∀ i, i < st.length → ¬ m.F (m.ix i)
  tb : LamX.Tabs Tbl.T H
variable [Tbl]
structure Fol (m : Mp) (n : Nat) (H : Hp) (m' : Mp) (n' : Nat) (H' : Hp) : Prop where
  tup : ∀ a xs, H a = some (.tup xs) → H' a = some (.tup xs)
  frz : ∀ a o u, H a = some (.frz o u) → H' a = some (.frz o u)
  rest : ∀ a o, NT o → H a = some o → (∀ i, i < n → m.ix i ≠ a) → H' a = some o
  old : ∀ i, i < n → m'.ix i = m.ix i
  new : ∀ i, n ≤ i → i < n' → ¬ Nn H (m'.ix i)
  le : n ≤ n'
  dom : ∀ a, Nn H a → Nn H' a
  eF : ∀ a, Nn H a → (m'.F a ↔ m.F a)
structure EnvR (K : Frg) (H : Hp) (m : Mp) (n : Nat) (env : En) (σ : L2.St) : Prop where
  len : env.length = σ.length
  at' : ∀ (i : Nat) w, env[i]? = some (some w) → ∃ v, σ[i]? = some (some v) ∧ RW K H m n v w
section
variable {K : Frg} {H H' H'' : Hp} {m m' m'' : Mp} {n n' n'' : Nat}
theorem ObAt.there {a : Addr} {o : Ob} (h : ObAt K H m n a o) : Nn H a := by
  cases o with
  | lst xs => obtain ⟨vs, e, _⟩ := h; exact ⟨_, e, nt_lst⟩
  | dct kvs => obtain ⟨vs, e, _⟩ := h; exact ⟨_, e, nt_dK⟩
  | dtt kvs => obtain ⟨vs, e, _⟩ := h; exact ⟨_, e, nt_dT⟩
  | lkd kvs =>
    cases (show Rp K H (Off m n) (.ref a) (.dict kvs) from h) with
    | dic h1 _ => exact ⟨_, h1, fun _ z => nomatch z⟩
    | dit h1 _ => exact ⟨_, h1, fun _ z => nomatch z⟩
  | lkl xs => obtain ⟨o, vs, h1, _⟩ := h; exact ⟨_, h1, fun _ z => nomatch z⟩
  | ins C es => obtain ⟨dx, fs, h1, _⟩ := h; exact ⟨_, h1, fun _ z => nomatch z⟩
theorem Sim.there {st : Sto} (S : Sim K H m st) {i : Nat} (hi : i < st.length) : Nn H (m.ix i) := (S.ob i st[i] (List.getElem?_eq_getElem hi)).there
theorem Sim.fresh {st : Sto} (S : Sim K H m st) {a : Addr} (h : H a = none) : Off m st.length a := ⟨fun i hi e => nn_no h (e ▸ S.there hi), fun z => nn_no h (S.ff a z)⟩
theorem Fol.refl : Fol m n H m n H := ⟨fun _ _ h => h, fun _ _ _ h => h, fun _ _ _ h _ => h, fun _ _ => rfl, fun i a b => absurd b (by omega), Nat.le_refl _, fun _ h => h, fun _ _ => Iff.rfl⟩
theorem Fol.off1 (f : Fol m n H m' n' H') {a : Addr} (z : ∀ i, i < n → m.ix i ≠ a) (h : Nn H a) : ∀ i, i < n' → m'.ix i ≠ a := fun i hi e => by
  by_cases q : i < n
  · exact z i q ((f.old i q).symm.trans e)
  · exact f.new i (by omega) hi (by rw [e]; exact h)
theorem Fol.off (f : Fol m n H m' n' H') {a : Addr} (z : Off m n a) (h : Nn H a) : Off m' n' a := ⟨f.off1 z.1 h, fun q => z.2 ((f.eF a h).mp q)⟩
theorem Fol.kp (f : Fol m n H m' n' H') : Kp K H (Off m n) H' (Off m' n') :=
  ⟨f.tup, f.frz, fun a o nt h z => ⟨f.rest a o nt.nt h z.1, f.off z ⟨o, h, nt.nt⟩⟩⟩
theorem Fol.trans (f : Fol m n H m' n' H') (g : Fol m' n' H' m'' n'' H'') : Fol m n H m'' n'' H'' where
  tup a xs h := g.tup a xs (f.tup a xs h)
  frz a o u h := g.frz a o u (f.frz a o u h)
  rest a o nt h z := g.rest a o nt (f.rest a o nt h z) (f.off1 z ⟨o, h, nt⟩)
  old i hi := (g.old i (Nat.lt_of_lt_of_le hi f.le)).trans (f.old i hi)
  new i h1 h2 := by
    by_cases q : i < n'
    · rw [g.old i q]; exact f.new i h1 q
    · exact fun z => g.new i (by omega) h2 (f.dom _ z)
  le := Nat.le_trans f.le g.le
  dom a h := g.dom a (f.dom a h)
  eF a h := (g.eF a (f.dom a h)).trans (f.eF a h)
theorem domOf (h : ∀ a o, H a = some o → H' a = some o) : ∀ a, Nn H a → Nn H' a := fun a ⟨o, e, nt⟩ => ⟨o, h _ _ e, nt⟩
theorem Fol.same (h : ∀ a o, H a = some o → H' a = some o) : Fol m n H m n H' :=
  ⟨fun _ _ q => h _ _ q, fun _ _ _ q => h _ _ q, fun _ _ _ q _ => h _ _ q, fun _ _ => rfl, fun i a b => absurd b (by omega), Nat.le_refl _, domOf h, fun _ _ => Iff.rfl⟩
theorem XdAt.mv {dd : Addr} {es : List (Str × PyData)} (h : XdAt K H m n dd es) (f : Fol m n H m' n' H') : XdAt K H' m' n' dd es := by
  obtain ⟨fs, h1, h2, h3, h4⟩ := h
  have nt : NT (.xd fs) := fun _ z => nomatch z
  exact ⟨fs, f.rest dd _ nt h1 h4.1, h2, h3.mv f.kp, f.off h4 ⟨_, h1, nt⟩⟩
theorem RW.mv {v : V} {w : Wv} (h : RW K H m n v w) (f : Fol m n H m' n' H') : RW K H' m' n' v w := by
  cases w with
  | d x => exact Rp.mv h f.kp
  | r i => exact ⟨Nat.lt_of_lt_of_le h.1 f.le, by rw [f.old i h.1]; exact h.2⟩
  | x a c d => exact ⟨h.1, fun p e => (h.2 p e).mv f⟩
theorem RWs.mv : ∀ {vs : List V} {ws : List Wv}, RWs K H m n vs ws → Fol m n H m' n' H' → RWs K H' m' n' vs ws
  | _, _, .nil, _ => .nil
  | _, _, .cons h1 h2, f => .cons (h1.mv f) (RWs.mv h2 f)
theorem RWs.len : ∀ {vs : List V} {ws : List Wv}, RWs K H m n vs ws → vs.length = ws.length
  | _, _, .nil => rfl
  | _, _, .cons _ h => by simp [RWs.len h]
theorem EnvR.mv {env : En} {σ : L2.St} (h : EnvR K H m n env σ) (f : Fol m n H m' n' H') : EnvR K H' m' n' env σ :=
  ⟨h.len, fun i w e => let ⟨v, h1, h2⟩ := h.at' i w e; ⟨v, h1, h2.mv f⟩⟩
theorem EnvR.set {env : En} {σ : L2.St} {v : V} {w : Wv} (h : EnvR K H m n env σ) (i : Nat) (r : RW K H m n v w) : EnvR K H m n (env.set i (some w)) (σ.set i (some v)) := by
  refine ⟨by simp [h.len], fun j u e => ?_⟩
  by_cases q : i = j
  · subst q
    by_cases l : i < env.length
    · rw [List.getElem?_set_self l] at e
      cases e
      exact ⟨v, List.getElem?_set_self (by rw [← h.len]; exact l), r⟩
    · rw [List.getElem?_eq_none (by simpa using l)] at e; cases e
  · rw [List.getElem?_set_ne q] at e
    obtain ⟨x, h1, h2⟩ := h.at' j u e
    exact ⟨x, by rw [List.getElem?_set_ne q]; exact h1, h2⟩
theorem ObAt.mv {a : Addr} {o : Ob} (h : ObAt K H m n a o) (f : Fol m n H m' n' H') (e : ∀ u, H a = some u → H' a = some u) : ObAt K H' m' n' a o := by
  cases o with
  | lst xs => obtain ⟨vs, h1, h2⟩ := h; exact ⟨vs, e _ h1, h2.mv f.kp⟩
  | dct kvs => obtain ⟨vs, h1, h2⟩ := h; exact ⟨vs, e _ h1, RpK.kp f.kp _ _ h2⟩
  | dtt kvs => obtain ⟨vs, h1, h2⟩ := h; exact ⟨vs, e _ h1, RpT.kp f.kp _ _ h2⟩
  | lkd es => exact Rp.mv h f.kp
  | lkl xs => exact FzL.mv h f.kp
  | ins C es => exact InAt.mv h f.kp fun _ _ => e _
/-- the store in a heap that has grown -/
theorem Sim.grow {st : Sto} (S : Sim K H m st) (h : ∀ a o, H a = some o → H' a = some o) : Sim K H' m st :=
  ⟨fun i o e => (S.ob i o e).mv (.same h) fun u => h _ u, S.inj, fun a z => (Fol.same (m := m) (n := 0) h).dom a (S.ff a z), S.fi, S.tb.ext h⟩
theorem grow_upd {p : Addr} {o : HO} (h : H p = none) : ∀ a u, H a = some u → upd H p o a = some u := fun a u e => by
  rw [upd_ne (ne_of_none e h)]; exact e
end
/-! ## an exception in the heap -/
structure ExR (K : Frg) (mg : Str → Option Value) (H : Hp) (m : Mp) (n : Nat) (e : Xc) (c : Value) (d : Option Addr) : Prop where
  cls : ∃ C, mg e.name = some (.ref C) ∧ c = .ref C
  fld : (e.fs = [] ∧ d = none) ∨ ∃ dd, d = some dd ∧ XdAt K H m n dd e.fs
/-! ## judgements -/
/-- what a value's end asks -/
def okE (X : Cx) (m : Mp) (n : Nat) (H : Hp) (Q : VK) : Wv → Sto → Prop := fun w st' => ∀ v H' m', Fol m n H m' st'.length H' → Sim X.K H' m' st' → RW X.K H' m' st'.length v w → Q v H'
def okX (X : Cx) (W : WX) (m : Mp) (n : Nat) (H : Hp) (σ : L2.St) : Xc → Sto → Prop := fun e st' => ∀ c d H' m', Fol m n H m' st'.length H' → Sim X.K H' m' st' → ExR X.K X.mg H' m' st'.length e c d → W c d σ H'
def tE (X : Cx) (W : WX) (c : En → Sto → Rs Wv) : TE := fun σ H Q => ∃ m env st, Sim X.K H m st ∧ EnvR X.K H m st.length env σ ∧ (c env st).post (okE X m st.length H Q) (okX X W m st.length H σ)
def tT (X : Cx) (W : WX) (c : En → Sto → Rs Bool) : TT := fun σ H Q => ∃ m env st, Sim X.K H m st ∧ EnvR X.K H m st.length env σ ∧ (c env st).post (fun b st' => ∀ H' m', Fol m st.length H m' st'.length H' → Sim X.K H' m' st' → Q b H') (okX X W m st.length H σ)
def tA (X : Cx) (W : WX) (c : En → Sto → Rs (List Wv)) : TA := fun σ H Q => ∃ m env st, Sim X.K H m st ∧ EnvR X.K H m st.length env σ ∧
  (c env st).post (fun ws st' => ∀ vs H' m', Fol m st.length H m' st'.length H' → Sim X.K H' m' st' → RWs X.K H' m' st'.length vs ws → Q vs H') (okX X W m st.length H σ)
structure DE (X : Cx) (e : Expr) (c : En → Sto → Rs Wv) : Prop where
  pe : ∀ W, Takes X W → PE X e (tE X W c)
structure DT (X : Cx) (e : Expr) (c : En → Sto → Rs Bool) : Prop where
  pt : ∀ W, Takes X W → PT X e (tT X W c)
structure DA (X : Cx) (es : List Expr) (c : En → Sto → Rs (List Wv)) : Prop where
  pa : ∀ W, Takes X W → PA X es (tA X W c)
/-- what a def's or a block's text stands in -/
structure Tb where
  N : List Str
  us : List Nat
  ls : List Nat
  ps : List Nat
  gs : List Str
  cs : List Str
  fn : Bool
  gd : Bool
  /-- the name of the lambdas that it makes -/
  lq : Option Str
/-- the module -/
structure Md where
  P : Program
  w : World
  K : Frg
  mg : Str → Option Value
  base : Heap
/-- the code object of a def that makes lambdas, and its table -/
structure LamC (mg : Str → Option Value) (base : Heap) (q : Str) (cd : Value) : Prop where
  at' : ∃ c P : Addr, cd = .ref c ∧ (P, q) ∈ Tbl.T ∧ (∀ p ∈ Tbl.T, p.1 = P → p.2 = q) ∧ LamX.TabB base mg c P
structure Cxt (M : Md) (X : Cx) (B : Tb) (k : Nat) : Prop where
  hP : X.prog = M.P
  hw : X.w = M.w
  hK : X.K = M.K
  mg : X.mg = M.mg
  hb : X.base = M.base
  hN : X.N = B.N
  nd : B.N.Nodup
  calm : X.calm = true
  kind : B.fn = true → X.env.scope.kind = .function
  room : Room k X.A
  gu : B.gd = true → X.A.guards = some []
  vis : ∀ i ∈ B.us, ∀ x, B.N[i]? = some x → Vis X.env.scope x
  loc : ∀ i ∈ B.ls, ∀ x, B.N[i]? = some x → Loc X.env.scope x ∧ (X.fn x = true ∨ X.env.scope.names.lookup x = some .local)
  pl : ∀ i ∈ B.ps, ∀ x, B.N[i]? = some x → X.env.scope.names.lookup x = some .local
  gl : ∀ (j : Nat) x, B.gs[j]? = some x → Gl X x
  cs : ∀ x ∈ B.cs, X.env.scope.names.lookup x = some .cell ∨ X.env.scope.names.lookup x = some .free
  po : B.fn = true → PassesOwn (model X.prog X.w) X.A X.env X.xe
  lam : ∀ q, B.lq = some q → X.env.qual ++ "<lambda>" = q ∧ LamC M.mg M.base q X.env.code
  fr : B.fn = true → X.stack = X.env :: X.outer ∧ X.env.frame = some X.env.locals
theorem Cxt.sm {M : Md} {X : Cx} {B : Tb} {k : Nat} (c : Cxt M X B k) (h : SysM M.base) : SysM X.base := by rw [c.hb]; exact h
theorem Cxt.roomH {M : Md} {X : Cx} {B : Tb} {k : Nat} (c : Cxt M X B k) : L2H.RoomH k X.A := L2H.roomH_of c.room
section
variable {M : Md} {X : Cx} {B : Tb} {k : Nat} {pins : List (Addr × Obj)} {σ : L2.St} {H : Hp} {s : Shared} {m : Mp} {env : En} {st : Sto} {W : WX}
/-- use a value's judgement -/
theorem DE.go {e : Expr} {c : En → Sto → Rs Wv} (h : DE X e c) (tk : Takes X W) (I : Inv X pins σ H s) (S : Sim X.K H m st) (R : EnvR X.K H m st.length env σ) {Q : Value → Shared → Prop}
    (hp : (c env st).post (fun w st' => ∀ v H' m' u s', Inv X pins σ H' s' → RelV v u → Fol m st.length H m' st'.length H' → Sim X.K H' m' st' → RW X.K H' m' st'.length v w → Q u s') (okX X W m st.length H σ)) :
    wpAny (model X.prog X.w) X.A (eval e X.env) Q X.xe s := by
  refine thn ((h.pe W tk).run pins s σ H (fun v H' => ∀ u s', Inv X pins σ H' s' → RelV v u → Q u s') I ⟨m, env, st, S, R, Rs.post_mono hp (fun w st' q v H' m' f S' r u s' I' rv => q v H' m' u s' I' rv f S' r) fun _ _ q => q⟩) fun u s' q => ?_
  obtain ⟨v, H', I', rv, q⟩ := q
  exact q u s' I' rv
theorem DT.go {e : Expr} {c : En → Sto → Rs Bool} (h : DT X e c) (tk : Takes X W) (I : Inv X pins σ H s) (S : Sim X.K H m st) (R : EnvR X.K H m st.length env σ) {Q : Bool → Shared → Prop}
    (hp : (c env st).post (fun b st' => ∀ H' m' s', Inv X pins σ H' s' → Fol m st.length H m' st'.length H' → Sim X.K H' m' st' → Q b s') (okX X W m st.length H σ)) :
    wpAny (model X.prog X.w) X.A (isTrue e X.env (eval e X.env)) Q X.xe s := by
  refine thn ((h.pt W tk).run pins s σ H (fun b H' => ∀ s', Inv X pins σ H' s' → Q b s') I ⟨m, env, st, S, R, Rs.post_mono hp (fun b st' q H' m' f S' s' I' => q H' m' s' I' f S') fun _ _ q => q⟩) fun b s' q => ?_
  obtain ⟨H', I', q⟩ := q
  exact q s' I'
theorem DA.go {es : List Expr} {c : En → Sto → Rs (List Wv)} (h : DA X es c) (tk : Takes X W) (I : Inv X pins σ H s) (S : Sim X.K H m st) (R : EnvR X.K H m st.length env σ) {Q : List Value → Shared → Prop} (pos : Pos)
    (hp : (c env st).post (fun ws st' => ∀ vs H' m' us s', Inv X pins σ H' s' → Vals vs us → Fol m st.length H m' st'.length H' → Sim X.K H' m' st' → RWs X.K H' m' st'.length vs ws → Q us s') (okX X W m st.length H σ)) :
    wpAny (model X.prog X.w) X.A (spliced (backTo pos (starEach es X.env))) Q X.xe s := by
  refine thn ((h.pa W tk).run pos pins s σ H (fun vs H' => ∀ us s', Inv X pins σ H' s' → Vals vs us → Q us s') I ⟨m, env, st, S, R, Rs.post_mono hp (fun w st' q vs H' m' f S' r us s' I' rv => q vs H' m' us s' I' rv f S' r) fun _ _ q => q⟩) fun u s' q => ?_
  obtain ⟨v, H', I', rv, q⟩ := q
  exact q u s' I' rv
/-- state a value's judgement -/
theorem DE.mk' {e : Expr} {c : En → Sto → Rs Wv} (h : ∀ (W : WX) (pins : List (Addr × Obj)) (σ : L2.St) (H : Hp) (s : Shared) (m : Mp) (env : En) (st : Sto) (Q : Value → Shared → Prop), Takes X W → Inv X pins σ H s → Sim X.K H m st → EnvR X.K H m st.length env σ →
    (c env st).post (fun w st' => ∀ v H' m' u s', Inv X pins σ H' s' → RelV v u → Fol m st.length H m' st'.length H' → Sim X.K H' m' st' → RW X.K H' m' st'.length v w → Q u s') (okX X W m st.length H σ) →
    wpAny (model X.prog X.w) X.A (eval e X.env) Q X.xe s) : DE X e c := by
  refine ⟨fun W tk => ⟨fun pins s σ H Q I ⟨m, env, st, S, R, hp⟩ => h W pins σ H s m env st _ tk I S R (Rs.post_mono hp (fun w st' q v H' m' u s' I' rv f S' r => ?_) fun _ _ q => q)⟩⟩
  exact ⟨v, H', I', rv, q v H' m' f S' r⟩
theorem DT.mk' {e : Expr} {c : En → Sto → Rs Bool} (h : ∀ (W : WX) (pins : List (Addr × Obj)) (σ : L2.St) (H : Hp) (s : Shared) (m : Mp) (env : En) (st : Sto) (Q : Bool → Shared → Prop), Takes X W → Inv X pins σ H s → Sim X.K H m st → EnvR X.K H m st.length env σ →
    (c env st).post (fun b st' => ∀ H' m' s', Inv X pins σ H' s' → Fol m st.length H m' st'.length H' → Sim X.K H' m' st' → Q b s') (okX X W m st.length H σ) →
    wpAny (model X.prog X.w) X.A (isTrue e X.env (eval e X.env)) Q X.xe s) : DT X e c := by
  refine ⟨fun W tk => ⟨fun pins s σ H Q I ⟨m, env, st, S, R, hp⟩ => h W pins σ H s m env st _ tk I S R (Rs.post_mono hp (fun b st' q H' m' s' I' f S' => ?_) fun _ _ q => q)⟩⟩
  exact ⟨H', I', q H' m' f S'⟩
theorem DA.mk' {es : List Expr} {c : En → Sto → Rs (List Wv)} (h : ∀ (W : WX) (pins : List (Addr × Obj)) (σ : L2.St) (H : Hp) (s : Shared) (m : Mp) (env : En) (st : Sto) (Q : List Value → Shared → Prop) (pos : Pos), Takes X W → Inv X pins σ H s → Sim X.K H m st → EnvR X.K H m st.length env σ →
    (c env st).post (fun ws st' => ∀ vs H' m' us s', Inv X pins σ H' s' → Vals vs us → Fol m st.length H m' st'.length H' → Sim X.K H' m' st' → RWs X.K H' m' st'.length vs ws → Q us s') (okX X W m st.length H σ) →
    wpAny (model X.prog X.w) X.A (spliced (backTo pos (starEach es X.env))) Q X.xe s) : DA X es c := by
  refine ⟨fun W tk => ⟨fun pos pins s σ H Q I ⟨m, env, st, S, R, hp⟩ => h W pins σ H s m env st _ pos tk I S R (Rs.post_mono hp (fun w st' q v H' m' u s' I' rv f S' r => ?_) fun _ _ q => q)⟩⟩
  exact ⟨v, H', I', rv, q v H' m' f S' r⟩
/-- what follows a first part asks of the rest -/
theorem okX.tr {m1 : Mp} {n n1 : Nat} {H1 : Hp} {e : Xc} {st' : Sto} (f : Fol m n H m1 n1 H1) (h : okX X W m n H σ e st') : okX X W m1 n1 H1 σ e st' := fun c d H' m' f' S' r => h c d H' m' (f.trans f') S' r
/-! ### names, constants -/
def eVar (i : Nat) : En → Sto → Rs Wv := fun env st => match env[i]? with
  | some (some w) => .ok w st
  | _ => .no
theorem de_var (c : Cxt M X B k) (i : Nat) {x : Str} {pos : Pos} (h : B.N[i]? = some x) (hu : i ∈ B.us) (hd : (x == ("__debug__" : Str)) = false := by decide) (hc : (x == ("__classdict__" : Str)) = false := by decide) : DE X (.Name x pos) (eVar i) := by
  refine ⟨fun W tk => ⟨fun pins s σ H Q I ⟨m, env, st, S, R, hp⟩ => (pe_var (i := i) (by rw [c.hN]; exact h) (c.vis i hu x h) hd hc).run pins s σ H Q I ?_⟩⟩
  unfold eVar at hp
  split at hp
  · rename_i w e
    obtain ⟨v, hv, r⟩ := R.at' i w e
    exact ⟨v, hv, hp v H m .refl S r⟩
  · exact hp.elim
def eK (x : PyData) : En → Sto → Rs Wv := fun _ st => .ok (.d x) st
theorem de_pure {e : Expr} {v : V} {x : PyData} (h : PE X e (tC v)) (r : ∀ K H Z, Rp K H Z v x) : DE X e (eK x) :=
  ⟨fun W tk => ⟨fun pins s σ H Q I ⟨m, env, st, S, R, hp⟩ => h.run pins s σ H Q I (hp v H m .refl S (r _ _ _))⟩⟩
theorem de_int {i : Int} {j : Nat} {pos : Pos} : DE X (.Constant (.int i) j pos) (eK (.int i)) := de_pure pe_int fun _ _ _ => .int i
theorem de_bl {b : Bool} {j : Nat} {pos : Pos} : DE X (.Constant (.bool b) j pos) (eK (.bool b)) := de_pure pe_bl fun _ _ _ => .bl b
theorem de_non {j : Nat} {pos : Pos} : DE X (.Constant .none j pos) (eK .none) := de_pure pe_non fun _ _ _ => .non
theorem de_str {x : Str} {j : Nat} {pos : Pos} : DE X (.Constant (.str x) j pos) (eK (.str x)) := de_pure pe_str fun _ _ _ => .str x
/-- a constant of the module -/
theorem de_glob {x : Str} {pos : Pos} {v : V} {u : Value} {y : PyData} (c : Cxt M X B k) (j : Nat) (h : B.gs[j]? = some x) (hm : M.mg x = some u) (r : RelV v u) (ry : ∀ H Z, Rp M.K H Z v y) (hd : (x == ("__debug__" : Str)) = false := by decide) : DE X (.Name x pos) (eK y) :=
  ⟨fun W tk => ⟨fun pins s σ H Q I ⟨m, env, st, S, R, hp⟩ => (pe_glob (c.gl j x h) (by rw [c.mg]; exact hm) r hd).run pins s σ H Q I (hp v H m .refl S (by rw [c.hK]; exact ry _ _))⟩⟩
end
end
section
variable [Wtp] [Tbl]
/-! ## data at the top: a list of the store too -/
/-- a dict that is read -/
def DkT (K : Frg) (H : Hp) (Z : Addr → Prop) (a : Addr) (es : List (PyData × PyData)) : Prop := (∃ ks, Rd H a (.dK ks) ∧ RpK K H Z ks es) ∨ ∃ ks, Rd H a (.dT ks) ∧ RpT K H Z ks es
def RT (K : Frg) (H : Hp) (Z : Addr → Prop) (v : V) (d : PyData) : Prop :=
  Rp K H Z v d ∨ (∃ a vs ds, v = .ref a ∧ d = .list ds ∧ H a = some (.lst vs) ∧ RpA K H Z vs ds) ∨ ∃ a, ∃ (_ : Unit), ∃ es, v = .ref a ∧ d = .dict es ∧ DkT K H Z a es
inductive RTs (K : Frg) (H : Hp) (Z : Addr → Prop) : List V → List PyData → Prop
  | nil : RTs K H Z [] []
  | cons {v : V} {vs : List V} {d : PyData} {ds : List PyData} : RT K H Z v d → RTs K H Z vs ds → RTs K H Z (v :: vs) (d :: ds)
section
variable {K : Frg} {H : Hp} {Z : Addr → Prop} {m : Mp} {st : Sto} {v : V}
theorem look_rt {w : Wv} {d : PyData} (S : Sim K H m st) (r : RW K H m st.length v w) (e : look st w = some d) : RT K H (Off m st.length) v d := by
  cases w with
  | d x =>
    cases e
    exact .inl r
  | r i =>
    obtain ⟨hi, rfl⟩ := r
    simp only [look] at e
    cases q : st[i]? with
    | none => rw [q] at e; cases e
    | some o =>
      rw [q] at e
      have h := S.ob i o q
      cases o with
      | lst xs =>
        cases e
        obtain ⟨vs, h1, h2⟩ := h
        exact .inr (.inl ⟨_, vs, xs, rfl, rfl, h1, h2⟩)
      | dct kvs =>
        cases e
        obtain ⟨vs, h1, h2⟩ := h
        exact .inr (.inr ⟨_, (), kvs, rfl, rfl, .inl ⟨vs, .inl h1, h2⟩⟩)
      | dtt kvs =>
        cases e
        obtain ⟨vs, h1, h2⟩ := h
        exact .inr (.inr ⟨_, (), kvs, rfl, rfl, .inr ⟨vs, .inl h1, h2⟩⟩)
      | lkd kvs =>
        cases e
        exact .inl h
      | lkl xs =>
        cases e
        exact .inl (FzL.rp h)
      | ins C es => cases e
  | x a c d => cases e
theorem RT.non (h : RT K H Z v .none) : v = .non := by
  rcases h with h | ⟨_, _, _, _, e, _⟩ | ⟨_, _, _, _, e, _⟩
  · cases h; rfl
  · cases e
  · cases e
theorem RT.int {i : Int} (h : RT K H Z v (.int i)) : v = .int i := by
  rcases h with h | ⟨_, _, _, _, e, _⟩ | ⟨_, _, _, _, e, _⟩
  · cases h; rfl
  · cases e
  · cases e
theorem RT.bl {b : Bool} (h : RT K H Z v (.bool b)) : v = .bl b := by
  rcases h with h | ⟨_, _, _, _, e, _⟩ | ⟨_, _, _, _, e, _⟩
  · cases h; rfl
  · cases e
  · cases e
theorem RT.str {x : Str} (h : RT K H Z v (.str x)) : v = .str x := by
  rcases h with h | ⟨_, _, _, _, e, _⟩ | ⟨_, _, _, _, e, _⟩
  · cases h; rfl
  · cases e
  · cases e
theorem RT.tupT {ds : List PyData} (h : RT K H Z v (.tuple ds)) : ∃ a vs, v = .ref a ∧ TpAt K H a vs ds ∧ RpA K H Z vs ds := by
  rcases h with h | ⟨_, _, _, _, e, _⟩ | ⟨_, _, _, _, e, _⟩
  · cases h with | tup h1 h2 => exact ⟨_, _, rfl, h1, h2⟩
  · cases e
  · cases e
theorem RT.tup {ds : List PyData} (h : RT K H Z v (.tuple ds)) : ∃ a vs, v = .ref a ∧ SqT K H a vs ∧ RpA K H Z vs ds := by
  rcases h with h | ⟨_, _, _, _, e, _⟩ | ⟨_, _, _, _, e, _⟩
  · cases h with | tup h1 h2 => exact ⟨_, _, rfl, h1.sq, h2⟩
  · cases e
  · cases e
theorem RT.lst {ds : List PyData} (h : RT K H Z v (.list ds)) : ∃ a vs, v = .ref a ∧ LsX K H a vs ∧ RpA K H Z vs ds := by
  rcases h with h | ⟨a, vs, xs, rfl, e, h1, h2⟩ | ⟨_, _, _, _, e, _⟩
  · cases h with | lst h1 h2 => exact ⟨_, _, rfl, h1.x, h2⟩
  · cases e; exact ⟨a, vs, rfl, .inl ⟨h1, trivial⟩, h2⟩
  · cases e
theorem RT.dic {es : List (PyData × PyData)} (h : RT K H Z v (.dict es)) : ∃ a, v = .ref a ∧ DkT K H Z a es := by
  rcases h with h | ⟨_, _, _, _, e, _⟩ | ⟨a, ks, xs, rfl, e, h1⟩
  · cases h with
    | dic h1 h2 => exact ⟨_, rfl, .inl ⟨_, .inr ⟨_, h1⟩, h2⟩⟩
    | dit h1 h2 => exact ⟨_, rfl, .inr ⟨_, .inr ⟨_, h1⟩, h2⟩⟩
  · cases e
  · cases e; exact ⟨a, rfl, h1⟩
end
section
variable {X : Cx} {pins : List (Addr × Obj)} {σ : L2.St} {H : Hp} {s : Shared} {Z : Addr → Prop}
theorem Inv.rtM (I : Inv X pins σ H s) {v : V} {u : Value} {d : PyData} (h : RT X.K H Z v d) (r : RelV v u) : ∃ as, Reads s.heap u d as ∧ (SysM s.heap → sysModules ∉ as) := by
  rcases h with h | ⟨a, vs, ds, rfl, rfl, h1, h2⟩ | ⟨a, ks, es, rfl, rfl, h1⟩
  · exact Rp.readsM I d v u h r
  · cases r
    obtain ⟨its, rv, ⟨o, n, ho, hc, _, hd⟩, _⟩ := I.list (.inl (.inl h1))
    obtain ⟨as, hr, g⟩ := RpA.readsM I ds _ its h2 rv
    exact ⟨_, .list ho hc hd hr, fun S => off_cons (S.seq ho hd) (g S)⟩
  · cases r
    rcases h1 with ⟨ks, h1, h2⟩ | ⟨ks, h1, h2⟩
    · obtain ⟨_, hm, vs, kv, o, ents, ep, ho, hc, hd, _, he, _⟩ := (show ObjOk X.prog X.w H s.heap _ (.dK _) from h1.ok I.hok)
      obtain ⟨as, bs, r1, r2, g1, g2⟩ := RpK.readsM I es _ vs ents.toList h2 kv he
      exact ⟨_, .dict ho hc.1 hd r1 r2, fun S => off_app (off_cons (fun z => by subst z; cases hm) (g1 S)) (g2 S)⟩
    · obtain ⟨_, hm, xs, kt, o, ents, ep, ho, hc, hd, he, _⟩ := (show ObjOk X.prog X.w H s.heap _ (.dT _) from h1.ok I.hok)
      obtain ⟨as, bs, r1, r2, g1, g2⟩ := RpT.readsM I es _ xs h2 kt
      rw [← he] at r1 r2
      exact ⟨_, .dict ho hc.1 hd r1 r2, fun S => off_app (off_cons (fun z => by subst z; cases hm) (g1 S)) (g2 S)⟩
theorem Inv.rt (I : Inv X pins σ H s) {v : V} {u : Value} {d : PyData} (h : RT X.K H Z v d) (r : RelV v u) : ∃ as, Reads s.heap u d as := let ⟨as, q, _⟩ := Inv.rtM I h r; ⟨as, q⟩
end
/-! ## operations on data -/
/-- what an operation's rule tells: its end, for whoever goes on -/
def rOut (K : Frg) (H : Hp) (Z : Addr → Prop) (r : PyData) (Q : VK) : Prop := ∀ z H', (∀ a o, H a = some o → H' a = some o) → Rp K H' Z z r → Q z H'
def rD (K : Frg) (f : PyData → PyData → Option PyData) : R2 := fun x y H Q => ∃ Z d e r, (∀ a, H a = none → Z a) ∧ RT K H Z x d ∧ RT K H Z y e ∧ f d e = some r ∧ rOut K H Z r Q
def rN (K : Frg) (f : List PyData → Option PyData) : List V → Hp → VK → Prop := fun vs H Q => ∃ Z ds r, (∀ a, H a = none → Z a) ∧ RTs K H Z vs ds ∧ f ds = some r ∧ rOut K H Z r Q
def rU1 (K : Frg) (f : PyData → Option PyData) : V → Hp → VK → Prop := fun x H Q => ∃ Z d r, (∀ a, H a = none → Z a) ∧ RT K H Z x d ∧ f d = some r ∧ rOut K H Z r Q
/-- the truth of data -/
def truD : PyData → Bool
  | .none => false
  | .bool b => b
  | .int i => i != 0
  | .str x => x.length != 0
  | .list xs => !xs.isEmpty
  | .tuple xs => !xs.isEmpty
  | .dict es => !es.isEmpty
def strOk : PyData → Bool
  | .str x => decide (x.length ≤ 1000000)
  | .dict _ => false
  | _ => true
theorem line_lim : 1000000 ≤ sizeLine := by rw [sizeLine_eq]; decide
def ret1 (r : Option PyData) (st : Sto) : Rs Wv := match r with
  | some x => .ok (.d x) st
  | none => .no
@[simp] theorem ret1_some (x : PyData) (st : Sto) : ret1 (some x) st = .ok (.d x) st := rfl
@[simp] theorem ret1_none (st : Sto) : ret1 none st = .no := rfl
def look1 (w : Wv) (st : Sto) (f : PyData → Rs Wv) : Rs Wv := match look st w with
  | some d => f d
  | none => .no
@[simp] theorem look1_d (x : PyData) (st : Sto) (f : PyData → Rs Wv) : look1 (.d x) st f = f x := rfl
def looks : List Wv → Sto → Option (List PyData)
  | [], _ => some []
  | w :: ws, st => match look st w, looks ws st with
    | some d, some ds => some (d :: ds)
    | _, _ => none
@[simp] theorem looks_nil (st : Sto) : looks [] st = some [] := rfl
@[simp] theorem looks_d (x : PyData) (ws : List Wv) (st : Sto) : looks (.d x :: ws) st = (looks ws st).map (x :: ·) := by
  simp only [looks, look_d]
  cases looks ws st <;> rfl
def eOp2 (f : PyData → PyData → Option PyData) (ca cb : En → Sto → Rs Wv) : En → Sto → Rs Wv := fun env st =>
  (ca env st).bind fun a st1 => (cb env st1).bind fun b st2 => look1 a st2 fun d => look1 b st2 fun e => ret1 (f d e) st2
def eOp1 (f : PyData → Option PyData) (ca : En → Sto → Rs Wv) : En → Sto → Rs Wv := fun env st => (ca env st).bind fun a st1 => look1 a st1 fun d => ret1 (f d) st1
def aNil : En → Sto → Rs (List Wv) := fun _ st => .ok [] st
def aCons (ca : En → Sto → Rs Wv) (cs : En → Sto → Rs (List Wv)) : En → Sto → Rs (List Wv) := fun env st => (ca env st).bind fun a st1 => (cs env st1).bind fun r st2 => .ok (a :: r) st2
def eOpN (f : List PyData → Option PyData) (cs : En → Sto → Rs (List Wv)) : En → Sto → Rs Wv := fun env st =>
  (cs env st).bind fun ws st1 => match looks ws st1 with
    | some ds => ret1 (f ds) st1
    | none => .no
/-- the truth of a value -/
def tru (w : Wv) (st : Sto) : Rs Bool := match look st w with
  | some d => if strOk d then .ok (truD d) st else .no
  | none => .no
@[simp] theorem tru_bool (b : Bool) (st : Sto) : tru (.d (.bool b)) st = .ok b st := rfl
def tTru (c : En → Sto → Rs Wv) : En → Sto → Rs Bool := fun env st => (c env st).bind tru
def tAnd2 (a b : En → Sto → Rs Bool) : En → Sto → Rs Bool := fun env st => (a env st).bind fun x st1 => if x then b env st1 else .ok false st1
def tOr2 (a b : En → Sto → Rs Bool) : En → Sto → Rs Bool := fun env st => (a env st).bind fun x st1 => if x then .ok true st1 else b env st1
def tNot1 (a : En → Sto → Rs Bool) : En → Sto → Rs Bool := fun env st => (a env st).bind fun x st1 => .ok (!x) st1
def eAnd2 (a b : En → Sto → Rs Wv) : En → Sto → Rs Wv := fun env st => (a env st).bind fun w st1 => (tru w st1).bind fun x st2 => if x then b env st2 else .ok w st2
def eOr2 (a b : En → Sto → Rs Wv) : En → Sto → Rs Wv := fun env st => (a env st).bind fun w st1 => (tru w st1).bind fun x st2 => if x then .ok w st2 else b env st2
def eNot1 (a : En → Sto → Rs Wv) : En → Sto → Rs Wv := fun env st => (a env st).bind fun w st1 => (tru w st1).bind fun x st2 => .ok (.d (.bool (!x))) st2
def eIf (t : En → Sto → Rs Bool) (a b : En → Sto → Rs Wv) : En → Sto → Rs Wv := fun env st => (t env st).bind fun x st1 => if x then a env st1 else b env st1
/-- a op b op' c -/
def eChain (f g : PyData → PyData → Option PyData) (ca cb cc : En → Sto → Rs Wv) : En → Sto → Rs Wv := fun env st =>
  (ca env st).bind fun a st1 => (cb env st1).bind fun b st2 => look1 a st2 fun d => look1 b st2 fun e => match f d e with
    | some (.bool true) => (cc env st2).bind fun c st3 => look1 b st3 fun e' => look1 c st3 fun y => ret1 (g e' y) st3
    | some (.bool false) => .ok (.d (.bool false)) st2
    | _ => .no
def allD : List Wv → Option (List PyData)
  | [] => some []
  | .d x :: ws => (allD ws).map (x :: ·)
  | .r _ :: _ => none
  | .x _ _ _ :: _ => none
@[simp] theorem allD_nil : allD [] = some [] := rfl
@[simp] theorem allD_cons (x : PyData) (ws : List Wv) : allD (.d x :: ws) = (allD ws).map (x :: ·) := rfl
def eTup (cs : En → Sto → Rs (List Wv)) : En → Sto → Rs Wv := fun env st => (cs env st).bind fun ws st1 => match allD ws with
  | some ds => if ds.length ≤ 1000000 then .ok (.d (.tuple ds)) st1 else .no
  | none => .no
def eLst (cs : En → Sto → Rs (List Wv)) : En → Sto → Rs Wv := fun env st => (cs env st).bind fun ws st1 => match allD ws with
  | some ds => if ds.length ≤ 1000000 then .ok (.d (.list ds)) st1 else .no
  | none => .no
/-- a new list of the store -/
def eNewL (cs : En → Sto → Rs (List Wv)) : En → Sto → Rs Wv := fun env st => (cs env st).bind fun ws st1 => match allD ws with
  | some ds => if ds.length ≤ 1000000 then .ok (.r st1.length) (st1 ++ [.lst ds]) else .no
  | none => .no
def eNewD : En → Sto → Rs Wv := fun _ st => .ok (.r st.length) (st ++ [.dct []])
/-- a new dict whose keys will be tuples -/
def eNewT : En → Sto → Rs Wv := fun _ st => .ok (.r st.length) (st ++ [.dtt []])
def eDic0 : En → Sto → Rs Wv := eK (.dict [])
section
variable {M : Md} {X : Cx} {B : Tb} {k : Nat} {pins : List (Addr × Obj)} {σ : L2.St} {H : Hp} {s : Shared} {m : Mp} {env : En} {st : Sto} {W : WX}
  {a b : Expr} {ca cb cc : En → Sto → Rs Wv} {pos : Pos}
theorem PE.imp {e : Expr} {t t' : TE} (h : PE X e t) (q : ∀ σ H Q, t' σ H Q → t σ H Q) : PE X e t' := ⟨fun pins s σ H Q I x => h.run pins s σ H Q I (q σ H Q x)⟩
theorem PT.imp {e : Expr} {t t' : TT} (h : PT X e t) (q : ∀ σ H Q, t' σ H Q → t σ H Q) : PT X e t' := ⟨fun pins s σ H Q I x => h.run pins s σ H Q I (q σ H Q x)⟩
theorem PW.imp {e : Expr} {t t' : TT} (h : PW X e t) (q : ∀ σ H Q, t' σ H Q → t σ H Q) : PW X e t' := ⟨fun wh pins s σ H Q I x => h.run wh pins s σ H Q I (q σ H Q x)⟩
theorem PA.imp {e : List Expr} {t t' : TA} (h : PA X e t) (q : ∀ σ H Q, t' σ H Q → t σ H Q) : PA X e t' := ⟨fun pos pins s σ H Q I x => h.run pos pins s σ H Q I (q σ H Q x)⟩
theorem look1_post {w : Wv} {f : PyData → Rs Wv} {Q : Wv → Sto → Prop} {R : Xc → Sto → Prop} (h : (look1 w st f).post Q R) : ∃ d, look st w = some d ∧ (f d).post Q R := by
  unfold look1 at h
  split at h
  · exact ⟨_, by assumption, h⟩
  · exact h.elim
theorem ret1_post {r : Option PyData} {Q : Wv → Sto → Prop} {R : Xc → Sto → Prop} (h : (ret1 r st).post Q R) : ∃ d, r = some d ∧ Q (.d d) st := by
  unfold ret1 at h
  split at h
  · exact ⟨_, rfl, h⟩
  · exact h.elim
/-- an operation's end goes on -/
theorem okE.out {m1 : Mp} {H1 : Hp} {st1 : Sto} {n : Nat} {r : PyData} {Q : VK} (f : Fol m n H m1 st1.length H1) (S : Sim X.K H1 m1 st1) (q : okE X m n H Q (.d r) st1) : rOut X.K H1 (Off m1 st1.length) r Q := fun z H' g h =>
  q z H' m1 (f.trans (.same g)) (S.grow g) h
/-- two parts, then what is asked of both -/
theorem te_two (f : PyData → PyData → Option PyData) {Q : VK} (h : tE X W (eOp2 f ca cb) σ H Q) : tOp (rD X.K f) (tE X W ca) (tE X W cb) σ H Q := by
  obtain ⟨m, env, st, S, R, hp⟩ := h
  unfold eOp2 at hp
  rw [Rs.post_bind] at hp
  refine ⟨m, env, st, S, R, Rs.post_mono hp (fun w st1 q v H1 m1 f1 S1 r1 => ?_) fun _ _ q => q⟩
  rw [Rs.post_bind] at q
  refine ⟨m1, env, st1, S1, R.mv f1, Rs.post_mono q (fun w2 st2 q v2 H2 m2 f2 S2 r2 => ?_) fun _ _ q => okX.tr f1 q⟩
  obtain ⟨d, e1, q⟩ := look1_post q
  obtain ⟨e, e2, q⟩ := look1_post q
  obtain ⟨r, e3, q⟩ := ret1_post q
  exact ⟨_, d, e, r, fun a => S2.fresh, look_rt S2 (r1.mv f2) e1, look_rt S2 r2 e2, e3, okE.out (f1.trans f2) S2 q⟩
theorem te_one (f : PyData → Option PyData) {Q : VK} (h : tE X W (eOp1 f ca) σ H Q) : tUn (rU1 X.K f) (tE X W ca) σ H Q := by
  obtain ⟨m, env, st, S, R, hp⟩ := h
  unfold eOp1 at hp
  rw [Rs.post_bind] at hp
  refine ⟨m, env, st, S, R, Rs.post_mono hp (fun w st1 q v H1 m1 f1 S1 r1 => ?_) fun _ _ q => q⟩
  obtain ⟨d, e1, q⟩ := look1_post q
  obtain ⟨r, e3, q⟩ := ret1_post q
  exact ⟨_, d, r, fun a => S1.fresh, look_rt S1 r1 e1, e3, okE.out f1 S1 q⟩
theorem looks_rt {vs : List V} {ws : List Wv} {ds : List PyData} (S : Sim X.K H m st) (r : RWs X.K H m st.length vs ws) (e : looks ws st = some ds) : RTs X.K H (Off m st.length) vs ds := by
  induction r generalizing ds with
  | nil => cases e; exact .nil
  | cons r1 r2 ih =>
    unfold looks at e
    split at e
    · cases e
      exact .cons (look_rt S r1 (by assumption)) (ih (by assumption))
    · cases e
theorem te_all (f : List PyData → Option PyData) {cs : En → Sto → Rs (List Wv)} {Q : VK} (h : tE X W (eOpN f cs) σ H Q) : tCB (rN X.K f) (tA X W cs) σ H Q := by
  obtain ⟨m, env, st, S, R, hp⟩ := h
  unfold eOpN at hp
  rw [Rs.post_bind] at hp
  refine ⟨m, env, st, S, R, Rs.post_mono hp (fun ws st1 q vs H1 m1 f1 S1 r1 => ?_) fun _ _ q => q⟩
  split at q
  · obtain ⟨r, e3, q⟩ := ret1_post q
    exact ⟨_, _, r, fun a => S1.fresh, looks_rt S1 r1 (by assumption), e3, okE.out f1 S1 q⟩
  · exact q.elim
/-! ### argument lists, operators -/
theorem da_nil : DA X [] aNil := ⟨fun W tk => ⟨fun pos pins s σ H Q I ⟨m, env, st, S, R, hp⟩ => pa_nil.run pos pins s σ H Q I (hp [] H m .refl S .nil)⟩⟩
theorem da_cons {e : Expr} {es : List Expr} {cs : En → Sto → Rs (List Wv)} (ha : DE X e ca) (hr : DA X es cs) (hs : starEach (e :: es) X.env = (false, eval e X.env) :: starEach es X.env := by rfl) : DA X (e :: es) (aCons ca cs) := by
  refine ⟨fun W tk => PA.imp (pa_cons (ha.pe W tk) (hr.pa W tk) hs) fun σ H Q ⟨m, env, st, S, R, hp⟩ => ?_⟩
  unfold aCons at hp
  rw [Rs.post_bind] at hp
  refine ⟨m, env, st, S, R, Rs.post_mono hp (fun w st1 q v H1 m1 f1 S1 r1 => ?_) fun _ _ q => q⟩
  rw [Rs.post_bind] at q
  refine ⟨m1, env, st1, S1, R.mv f1, Rs.post_mono q (fun ws st2 q vs H2 m2 f2 S2 r2 => ?_) fun _ _ q => okX.tr f1 q⟩
  exact q (v :: vs) H2 m2 (f1.trans f2) S2 (.cons (r1.mv f2) r2)
theorem de_bin {op : Operator} {f : PyData → PyData → Option PyData} (ho : OpR X (binaryOp op) (rD X.K f)) (ha : DE X a ca) (hb : DE X b cb) : DE X (.BinOp a op b pos) (eOp2 f ca cb) :=
  ⟨fun W tk => PE.imp (pe_op ho (ha.pe W tk) (hb.pe W tk)) fun σ H Q => te_two f⟩
theorem de_un {op : UnaryOp} {f : PyData → Option PyData} (ho : UnR X (unaryOp op) (rU1 X.K f)) (ha : DE X a ca) : DE X (.UnaryOp op a pos) (eOp1 f ca) :=
  ⟨fun W tk => PE.imp (pe_un ho (ha.pe W tk)) fun σ H Q => te_one f⟩
theorem de_cmp {op : CmpOp} {f : PyData → PyData → Option PyData} (ho : OpR X (compareOp op) (rD X.K f)) (ha : DE X a ca) (hb : DE X b cb) (hm : behindInMarks op b = false) : DE X (.Compare a [op] [b] pos) (eOp2 f ca cb) :=
  ⟨fun W tk => PE.imp (pe_cmpR ho (ha.pe W tk) (hb.pe W tk) hm) fun σ H Q => te_two f⟩
/-- tests of bools -/
def tBl (c : En → Sto → Rs Wv) : En → Sto → Rs Bool := fun env st => (c env st).bind fun w st1 => match w with
  | .d (.bool b) => .ok b st1
  | _ => .no
theorem tt_of {Q : Bool → Hp → Prop} {c : En → Sto → Rs Wv} (h : tT X W (tBl c) σ H Q) : tE X W c σ H fun x H' => ∃ k, x = .bl k ∧ Q k H' := by
  obtain ⟨m, env, st, S, R, hp⟩ := h
  unfold tBl at hp
  rw [Rs.post_bind] at hp
  refine ⟨m, env, st, S, R, Rs.post_mono hp (fun w st1 q v H1 m1 f1 S1 r1 => ?_) fun _ _ q => q⟩
  split at q
  · cases r1
    exact ⟨_, rfl, q H1 m1 f1 S1⟩
  · exact q.elim
theorem dt_cmp {op : CmpOp} {f : PyData → PyData → Option PyData} (ho : OpR X (compareOp op) (rD X.K f)) (ha : DE X a ca) (hb : DE X b cb) (hm : behindInMarks op b = false) : DT X (.Compare a [op] [b] pos) (tBl (eOp2 f ca cb)) :=
  ⟨fun W tk => PT.imp (pt_cmpR ho (ha.pe W tk) (hb.pe W tk) hm) fun σ H Q h => te_two f (tt_of h)⟩
theorem te_chain {f g : PyData → PyData → Option PyData} {Q : VK} (h : tE X W (eChain f g ca cb cc) σ H Q) : tChain (rD X.K f) (rD X.K g) (tE X W ca) (tE X W cb) (tE X W cc) σ H Q := by
  obtain ⟨m, env, st, S, R, hp⟩ := h
  unfold eChain at hp
  rw [Rs.post_bind] at hp
  refine ⟨m, env, st, S, R, Rs.post_mono hp (fun w st1 q v H1 m1 f1 S1 r1 => ?_) fun _ _ q => q⟩
  rw [Rs.post_bind] at q
  refine ⟨m1, env, st1, S1, R.mv f1, Rs.post_mono q (fun w2 st2 q v2 H2 m2 f2 S2 r2 => ?_) fun _ _ q => okX.tr f1 q⟩
  obtain ⟨d, e1, q⟩ := look1_post q
  obtain ⟨e, e2, q⟩ := look1_post q
  split at q
  · rename_i e3
    refine ⟨_, d, e, _, fun a => S2.fresh, look_rt S2 (r1.mv f2) e1, look_rt S2 r2 e2, e3, fun z H' g0 h => ?_⟩
    cases h
    refine ⟨true, rfl, ?_⟩
    rw [if_pos rfl]
    have g2 : Fol m2 st2.length H2 m2 st2.length H' := .same g0
    rw [Rs.post_bind] at q
    refine ⟨m2, env, st2, S2.grow g0, (R.mv f1).mv (f2.trans g2), Rs.post_mono q (fun w3 st3 q v3 H3 m3 f3 S3 r3 => ?_) fun _ _ q => okX.tr (f1.trans (f2.trans g2)) q⟩
    obtain ⟨e', e4, q⟩ := look1_post q
    obtain ⟨y, e5, q⟩ := look1_post q
    obtain ⟨r, e6, q⟩ := ret1_post q
    exact ⟨_, e', y, r, fun a => S3.fresh, look_rt S3 ((r2.mv g2).mv f3) e4, look_rt S3 r3 e5, e6, okE.out ((f1.trans (f2.trans g2)).trans f3) S3 q⟩
  · rename_i e3
    refine ⟨_, d, e, _, fun a => S2.fresh, look_rt S2 (r1.mv f2) e1, look_rt S2 r2 e2, e3, fun z H' g0 h => ?_⟩
    cases h
    refine ⟨false, rfl, ?_⟩
    rw [if_neg Bool.false_ne_true]
    exact q _ _ m2 ((f1.trans f2).trans (.same g0)) (S2.grow g0) (.bl false)
  · exact q.elim
theorem de_chain {op op' : CmpOp} {f g : PyData → PyData → Option PyData} {c : Expr} (ho : OpR X (compareOp op) (rD X.K f)) (ho' : OpR X (compareOp op') (rD X.K g)) (ha : DE X a ca) (hb : DE X b cb) (hc : DE X c cc)
    (hm : lastMarks [op, op'] [b, c] = false := by with_unfolding_all rfl) : DE X (.Compare a [op, op'] [b, c] pos) (eChain f g ca cb cc) :=
  ⟨fun W tk => PE.imp (pe_chain ho ho' (ha.pe W tk) (hb.pe W tk) (hc.pe W tk) hm) fun σ H Q => te_chain⟩
theorem dt_chain {op op' : CmpOp} {f g : PyData → PyData → Option PyData} {c : Expr} (ho : OpR X (compareOp op) (rD X.K f)) (ho' : OpR X (compareOp op') (rD X.K g)) (ha : DE X a ca) (hb : DE X b cb) (hc : DE X c cc)
    (hm : lastMarks [op, op'] [b, c] = false := by with_unfolding_all rfl) : DT X (.Compare a [op, op'] [b, c] pos) (tBl (eChain f g ca cb cc)) :=
  ⟨fun W tk => PT.imp (pt_chain ho ho' (ha.pe W tk) (hb.pe W tk) (hc.pe W tk) hm) fun σ H Q h => te_chain (tt_of h)⟩
/-! ### truth, and, or, not -/
theorem truV_of {v : V} {d : PyData} {Z : Addr → Prop} (r : RT X.K H Z v d) (h : strOk d = true) : TruV X.K v H (truD d) := by
  cases d with
  | none => rw [r.non]; rfl
  | bool b => rw [r.bl]; rfl
  | int i => rw [r.int]; rfl
  | str x =>
    rw [r.str]
    refine ⟨Nat.le_trans (of_decide_eq_true h) line_lim, ?_⟩
    show (x.length != 0) = ((x.length : Int) != 0)
    cases x.length <;> rfl
  | list xs =>
    obtain ⟨a, vs, rfl, h1, h2⟩ := r.lst
    refine .inl ⟨vs, h1.sq, ?_⟩
    cases h2 <;> rfl
  | tuple xs =>
    obtain ⟨a, vs, rfl, h1, h2⟩ := r.tup
    refine .inr (.inl ⟨vs, h1, ?_⟩)
    cases h2 <;> rfl
  | dict es => cases h
theorem tru_post {w : Wv} {Q : Bool → Sto → Prop} {R : Xc → Sto → Prop} (h : (tru w st).post Q R) : ∃ d, look st w = some d ∧ strOk d = true ∧ Q (truD d) st := by
  unfold tru at h
  split at h
  · split at h
    · exact ⟨_, by assumption, by assumption, h⟩
    · exact h.elim
  · exact h.elim
theorem dt_val (ha : DE X a ca) (he : ∀ whole, isTrue a X.env whole = (do let v ← whole; standAt a.pos; holding [v] (truthy v)) := by intro _; rfl) : DT X a (tTru ca) := by
  refine ⟨fun W tk => PT.imp (pt_truth (ha.pe W tk) he) fun σ H Q ⟨m, env, st, S, R, hp⟩ => ?_⟩
  unfold tTru at hp
  rw [Rs.post_bind] at hp
  refine ⟨m, env, st, S, R, Rs.post_mono hp (fun w st1 q v H1 m1 f1 S1 r1 => ?_) fun _ _ q => q⟩
  obtain ⟨d, e1, e2, q⟩ := tru_post q
  exact ⟨_, truV_of (look_rt S1 r1 e1) e2, q H1 m1 f1 S1⟩
/-- a test whatever its 'whole' is -/
structure DW (X : Cx) (e : Expr) (c : En → Sto → Rs Bool) : Prop where
  pw : ∀ W, Takes X W → PW X e (tT X W c)
theorem DW.dt {e : Expr} {c : En → Sto → Rs Bool} (h : DW X e c) : DT X e c := ⟨fun W tk => (h.pw W tk).pt⟩
variable {ta tb : En → Sto → Rs Bool} {rest : List Expr}
theorem dw_and1 (ha : DT X a ta) : DW X (.BoolOp .And [a] pos) ta := ⟨fun W tk => pw_and1 (ha.pt W tk)⟩
theorem dw_or1 (ha : DT X a ta) : DW X (.BoolOp .Or [a] pos) ta := ⟨fun W tk => pw_or1 (ha.pt W tk)⟩
theorem dw_and (ha : DT X a ta) (hb : DW X (.BoolOp .And (b :: rest) pos) tb) : DW X (.BoolOp .And (a :: b :: rest) pos) (tAnd2 ta tb) := by
  refine ⟨fun W tk => PW.imp (pw_and (ha.pt W tk) (hb.pw W tk)) fun σ H Q ⟨m, env, st, S, R, hp⟩ => ?_⟩
  unfold tAnd2 at hp
  rw [Rs.post_bind] at hp
  refine ⟨m, env, st, S, R, Rs.post_mono hp (fun x st1 q H1 m1 f1 S1 => ?_) fun _ _ q => q⟩
  cases x with
  | true => exact ⟨m1, env, st1, S1, R.mv f1, Rs.post_mono q (fun y st2 q H2 m2 f2 S2 => q H2 m2 (f1.trans f2) S2) fun _ _ q => okX.tr f1 q⟩
  | false => exact q H1 m1 f1 S1
theorem dw_or (ha : DT X a ta) (hb : DW X (.BoolOp .Or (b :: rest) pos) tb) : DW X (.BoolOp .Or (a :: b :: rest) pos) (tOr2 ta tb) := by
  refine ⟨fun W tk => PW.imp (pw_or (ha.pt W tk) (hb.pw W tk)) fun σ H Q ⟨m, env, st, S, R, hp⟩ => ?_⟩
  unfold tOr2 at hp
  rw [Rs.post_bind] at hp
  refine ⟨m, env, st, S, R, Rs.post_mono hp (fun x st1 q H1 m1 f1 S1 => ?_) fun _ _ q => q⟩
  cases x with
  | false => exact ⟨m1, env, st1, S1, R.mv f1, Rs.post_mono q (fun y st2 q H2 m2 f2 S2 => q H2 m2 (f1.trans f2) S2) fun _ _ q => okX.tr f1 q⟩
  | true => exact q H1 m1 f1 S1
theorem dt_not (ha : DT X a ta) : DT X (.UnaryOp .Not a pos) (tNot1 ta) := by
  refine ⟨fun W tk => PT.imp (pt_not (ha.pt W tk)) fun σ H Q ⟨m, env, st, S, R, hp⟩ => ?_⟩
  unfold tNot1 at hp
  rw [Rs.post_bind] at hp
  exact ⟨m, env, st, S, R, Rs.post_mono hp (fun x st1 q H1 m1 f1 S1 => q H1 m1 f1 S1) fun _ _ q => q⟩
/-- as values -/
theorem de_one {op : BoolOp} (ha : DE X a ca) : DE X (.BoolOp op [a] pos) ca := ⟨fun W tk => pe_one (ha.pe W tk)⟩
theorem de_and (ha : DE X a ca) (hb : DE X (.BoolOp .And (b :: rest) pos) cb) : DE X (.BoolOp .And (a :: b :: rest) pos) (eAnd2 ca cb) := by
  refine ⟨fun W tk => PE.imp (pe_andT (ha.pe W tk) (hb.pe W tk)) fun σ H Q ⟨m, env, st, S, R, hp⟩ => ?_⟩
  unfold eAnd2 at hp
  rw [Rs.post_bind] at hp
  refine ⟨m, env, st, S, R, Rs.post_mono hp (fun w st1 q v H1 m1 f1 S1 r1 => ?_) fun _ _ q => q⟩
  rw [Rs.post_bind] at q
  obtain ⟨d, e1, e2, q⟩ := tru_post q
  refine ⟨_, truV_of (look_rt S1 r1 e1) e2, ?_⟩
  cases q2 : truD d with
  | true =>
    rw [q2, if_pos rfl] at q
    exact ⟨m1, env, st1, S1, R.mv f1, Rs.post_mono q (fun y st2 q v2 H2 m2 f2 S2 r2 => q v2 H2 m2 (f1.trans f2) S2 r2) fun _ _ q => okX.tr f1 q⟩
  | false =>
    rw [q2, if_neg Bool.false_ne_true] at q
    exact q v H1 m1 f1 S1 r1
theorem de_not (ha : DE X a ca) : DE X (.UnaryOp .Not a pos) (eNot1 ca) := by
  refine ⟨fun W tk => PE.imp (pe_notT (ha.pe W tk)) fun σ H Q ⟨m, env, st, S, R, hp⟩ => ?_⟩
  unfold eNot1 at hp
  rw [Rs.post_bind] at hp
  refine ⟨m, env, st, S, R, Rs.post_mono hp (fun w st1 q v H1 m1 f1 S1 r1 => ?_) fun _ _ q => q⟩
  rw [Rs.post_bind] at q
  obtain ⟨d, e1, e2, q⟩ := tru_post q
  exact ⟨_, truV_of (look_rt S1 r1 e1) e2, q _ H1 m1 f1 S1 (.bl _)⟩
theorem de_if {c : Expr} (hc : DT X c ta) (ha : DE X a ca) (hb : DE X b cb) : DE X (.IfExp c a b pos) (eIf ta ca cb) := by
  refine ⟨fun W tk => PE.imp (pe_ifExp (hc.pt W tk) (ha.pe W tk) (hb.pe W tk)) fun σ H Q ⟨m, env, st, S, R, hp⟩ => ?_⟩
  unfold eIf at hp
  rw [Rs.post_bind] at hp
  refine ⟨m, env, st, S, R, Rs.post_mono hp (fun x st1 q H1 m1 f1 S1 => ?_) fun _ _ q => q⟩
  cases x with
  | true => exact ⟨m1, env, st1, S1, R.mv f1, Rs.post_mono q (fun y st2 q v2 H2 m2 f2 S2 r2 => q v2 H2 m2 (f1.trans f2) S2 r2) fun _ _ q => okX.tr f1 q⟩
  | false => exact ⟨m1, env, st1, S1, R.mv f1, Rs.post_mono q (fun y st2 q v2 H2 m2 f2 S2 r2 => q v2 H2 m2 (f1.trans f2) S2 r2) fun _ _ q => okX.tr f1 q⟩
/-! ### displays -/
theorem allD_rp {vs : List V} {ws : List Wv} {ds : List PyData} (r : RWs X.K H m st.length vs ws) (e : allD ws = some ds) : RpA X.K H (Off m st.length) vs ds := by
  induction r generalizing ds with
  | nil => cases e; exact .nil
  | @cons v vs w ws r1 r2 ih =>
    cases w with
    | d x =>
      rw [allD_cons] at e
      cases q : allD ws with
      | none => rw [q] at e; cases e
      | some es =>
        rw [q] at e
        cases e
        exact .cons r1 (ih q)
    | r i => cases e
    | x a c d => cases e
theorem disp_post {f : List PyData → Rs Wv} {ws : List Wv} {Q : Wv → Sto → Prop} {R : Xc → Sto → Prop} (h : (match allD ws with | some ds => if ds.length ≤ 1000000 then f ds else .no | none => .no : Rs Wv).post Q R) :
    ∃ ds, allD ws = some ds ∧ ds.length ≤ 1000000 ∧ (f ds).post Q R := by
  split at h
  · split at h
    · exact ⟨_, by assumption, by assumption, h⟩
    · exact h.elim
  · exact h.elim
/-- how a new tuple is told: tracked, or (F) plain -/
def TupO (u : HO) (xs : List V) : Prop := (Wtp.F = false ∧ u = .tup xs) ∨ (Wtp.F = true ∧ ∃ ob : Obj, u = .frz ob (.tup xs) ∧ ob.dict = none)
theorem TupO.tp {K : Frg} {H : Hp} {a : Addr} {u : HO} {xs : List V} {ds : List PyData} (h : TupO u xs) (e : H a = some u) : TpAt K H a xs ds := by
  rcases h with ⟨z, rfl⟩ | ⟨z, ob, rfl, n⟩
  · exact .inl ⟨z, e⟩
  · exact .inr (.inr ⟨z, ob, e, n⟩)
theorem TupO.sq {K : Frg} {H : Hp} {a : Addr} {u : HO} {xs : List V} (h : TupO u xs) (e : H a = some u) : SqT K H a xs := by
  rcases h with ⟨z, rfl⟩ | ⟨z, ob, rfl, n⟩
  · exact .inl (.inl e)
  · exact .inl (.inr ⟨ob, e⟩)
theorem TupO.nK {u : HO} {xs : List V} (h : TupO u xs) : ∀ ks, u ≠ .dK ks := fun _ e => by
  subst e
  rcases h with ⟨_, z⟩ | ⟨_, _, z, _⟩ <;> cases z
theorem TupO.nT {u : HO} {xs : List V} (h : TupO u xs) : ∀ ks, u ≠ .dT ks := fun _ e => by
  subst e
  rcases h with ⟨_, z⟩ | ⟨_, _, z, _⟩ <;> cases z
theorem pe_tupF {es : List Expr} {t : TA} {j : Nat} (h : PA X es t) : PE X (.Tuple es j pos) (fun σ H Q => t σ H fun xs H1 => xs.length ≤ sizeLine ∧ ∀ (p : Addr) (u : HO), H1 p = none → TupO u xs → Q (.ref p) (upd H1 p u)) := by
  cases hF : Wtp.F with
  | false =>
    refine PE.imp (pe_tup h) fun σ H Q q => ?_
    have e : (fun (xs : List V) (H1 : Hp) => xs.length ≤ sizeLine ∧ ∀ (p : Addr) (u : HO), H1 p = none → TupO u xs → Q (.ref p) (upd H1 p u)) = fun xs H1 => xs.length ≤ sizeLine ∧ ∀ p, H1 p = none → Q (.ref p) (upd H1 p (.tup xs)) := by
      funext xs H1
      refine propext ⟨fun ⟨z, q⟩ => ⟨z, fun p hn => q p _ hn (.inl ⟨hF, rfl⟩)⟩, fun ⟨z, q⟩ => ⟨z, fun p u hn hu => ?_⟩⟩
      rcases hu with ⟨_, rfl⟩ | ⟨z, _⟩
      · exact q p hn
      · rw [hF] at z; cases z
    rw [e] at q
    exact q
  | true =>
    refine PE.imp (pe_tupN h) fun σ H Q q => ?_
    have e : (fun (xs : List V) (H1 : Hp) => xs.length ≤ sizeLine ∧ ∀ (p : Addr) (u : HO), H1 p = none → TupO u xs → Q (.ref p) (upd H1 p u)) = fun xs H1 => xs.length ≤ sizeLine ∧ NewT H1 Q xs := by
      funext xs H1
      refine propext ⟨fun ⟨z, q⟩ => ⟨z, fun p ob hn no => q p _ hn (.inr ⟨hF, ob, rfl, no⟩)⟩, fun ⟨z, q⟩ => ⟨z, fun p u hn hu => ?_⟩⟩
      rcases hu with ⟨z, _⟩ | ⟨_, ob, rfl, no⟩
      · rw [hF] at z; cases z
      · exact q p ob hn no
    rw [e] at q
    exact q
theorem de_tup {es : List Expr} {cs : En → Sto → Rs (List Wv)} {x1} (ha : DA X es cs) : DE X (.Tuple es x1 pos) (eTup cs) := by
  refine ⟨fun W tk => PE.imp (pe_tupF (ha.pa W tk)) fun σ H Q ⟨m, env, st, S, R, hp⟩ => ?_⟩
  unfold eTup at hp
  rw [Rs.post_bind] at hp
  refine ⟨m, env, st, S, R, Rs.post_mono hp (fun ws st1 q vs H1 m1 f1 S1 r1 => ?_) fun _ _ q => q⟩
  obtain ⟨ds, e1, e2, q⟩ := disp_post (f := fun ds => .ok (.d (.tuple ds)) st1) q
  have ra := allD_rp r1 e1
  refine ⟨by rw [ra.len]; exact Nat.le_trans e2 line_lim, fun p u hn hu => ?_⟩
  have g := grow_upd (o := u) hn
  exact q _ _ m1 (f1.trans (.same g)) (S1.grow g) (.tup (hu.tp upd_same) (ra.mv (Fol.same (m := m1) (n := st1.length) g).kp))
theorem de_lst {es : List Expr} {cs : En → Sto → Rs (List Wv)} (ha : DA X es cs) : DE X (.List es pos) (eLst cs) := by
  refine ⟨fun W tk => PE.imp (pe_lst (ha.pa W tk)) fun σ H Q ⟨m, env, st, S, R, hp⟩ => ?_⟩
  unfold eLst at hp
  rw [Rs.post_bind] at hp
  refine ⟨m, env, st, S, R, Rs.post_mono hp (fun ws st1 q vs H1 m1 f1 S1 r1 => ?_) fun _ _ q => q⟩
  obtain ⟨ds, e1, e2, q⟩ := disp_post (f := fun ds => .ok (.d (.list ds)) st1) q
  have ra := allD_rp r1 e1
  refine ⟨by rw [ra.len]; exact Nat.le_trans e2 line_lim, fun p hn => ?_⟩
  have g := grow_upd (o := .lst vs) hn
  exact q _ _ m1 (f1.trans (.same g)) (S1.grow g) (.lst (.inl ⟨upd_same, S1.fresh hn⟩) (ra.mv (Fol.same (m := m1) (n := st1.length) g).kp))
/-- a new object of the store -/
def mup (m : Mp) (n : Nat) (p : Addr) : Mp := ⟨fun i => if i = n then p else m.ix i, m.F⟩
theorem mup_old {n : Nat} {p : Addr} {i : Nat} (h : i < n) : (mup m n p).ix i = m.ix i := if_neg (by omega)
theorem mup_new {n : Nat} {p : Addr} : (mup m n p).ix n = p := if_pos rfl
theorem fol_new {n : Nat} {p : Addr} {o : HO} (hn : H p = none) : Fol m n H (mup m n p) (n + 1) (upd H p o) where
  tup a xs h := grow_upd hn a _ h
  frz a u x h := grow_upd hn a _ h
  rest a u _ h _ := grow_upd hn a _ h
  old i hi := mup_old hi
  new i h1 h2 := by
    have e : i = n := by omega
    rw [e, mup_new]
    exact nn_no hn
  le := Nat.le_succ n
  dom := domOf (grow_upd hn)
  eF _ _ := Iff.rfl
theorem Sim.new {K : Frg} {H : Hp} {m : Mp} {st : Sto} {p : Addr} {o : HO} {ob : Ob} (S : Sim K H m st) (hn : H p = none) (h : ObAt K (upd H p o) (mup m st.length p) (st.length + 1) p ob) : Sim K (upd H p o) (mup m st.length p) (st ++ [ob]) := by
  have f : Fol m st.length H (mup m st.length p) (st.length + 1) (upd H p o) := fol_new hn
  have hl : (st ++ [ob]).length = st.length + 1 := by simp
  refine ⟨fun i u e => ?_, fun i j hi hj e => ?_, fun a z => f.dom a (S.ff a z), fun i hi => ?_, S.tb.ext (grow_upd hn)⟩
  · rw [hl]
    by_cases q : i < st.length
    · rw [List.getElem?_append_left q] at e
      rw [mup_old q]
      exact (S.ob i u e).mv f fun x => grow_upd hn _ x
    · have e2 : i = st.length := by
        have := (List.getElem?_eq_some_iff.mp e).1
        rw [hl] at this
        omega
      subst e2
      simp at e
      subst e
      rw [mup_new]
      exact h
  · rw [hl] at hi hj
    have key : ∀ x, x < st.length → (mup m st.length p).ix x ≠ p := fun x hx z => by
      rw [mup_old hx] at z
      exact nn_no hn (z ▸ S.there hx)
    by_cases h1 : i < st.length
    · by_cases h2 : j < st.length
      · rw [mup_old h1, mup_old h2] at e
        exact S.inj i j h1 h2 e
      · have : j = st.length := by omega
        subst this
        rw [mup_new] at e
        exact absurd e (key i h1)
    · have : i = st.length := by omega
      subst this
      by_cases h2 : j < st.length
      · rw [mup_new] at e
        exact absurd e.symm (key j h2)
      · omega
  · rw [hl] at hi
    by_cases q : i < st.length
    · rw [mup_old q]; exact S.fi i q
    · have : i = st.length := by omega
      subst this
      rw [mup_new]
      exact fun z => nn_no hn (S.ff p z)
theorem de_newl {es : List Expr} {cs : En → Sto → Rs (List Wv)} (ha : DA X es cs) : DE X (.List es pos) (eNewL cs) := by
  refine ⟨fun W tk => PE.imp (pe_lst (ha.pa W tk)) fun σ H Q ⟨m, env, st, S, R, hp⟩ => ?_⟩
  unfold eNewL at hp
  rw [Rs.post_bind] at hp
  refine ⟨m, env, st, S, R, Rs.post_mono hp (fun ws st1 q vs H1 m1 f1 S1 r1 => ?_) fun _ _ q => q⟩
  obtain ⟨ds, e1, e2, q⟩ := disp_post (f := fun ds => .ok (.r st1.length) (st1 ++ [.lst ds])) q
  have ra := allD_rp r1 e1
  refine ⟨by rw [ra.len]; exact Nat.le_trans e2 line_lim, fun p hn => ?_⟩
  have f2 : Fol m1 st1.length H1 (mup m1 st1.length p) (st1.length + 1) (upd H1 p (.lst vs)) := fol_new hn
  have hl : (st1 ++ [Ob.lst ds]).length = st1.length + 1 := by simp
  refine q _ _ _ ?_ (S1.new hn ⟨vs, upd_same, ra.mv f2.kp⟩) ?_
  · rw [hl]; exact f1.trans f2
  · rw [hl]; exact ⟨Nat.lt_succ_self _, by rw [mup_new]⟩
/-- a dict is pinned as it stands -/
theorem Inv.freeze {pins : List (Addr × Obj)} {σ : L2.St} {H : Hp} {s : Shared} {a : Addr} {u : HO} (I : Inv X pins σ H s) (h : H a = some u) (hu : (∃ ks, u = .dK ks) ∨ ∃ ks, u = .dT ks) : ∃ o, Inv X pins σ (upd H a (.frz o u)) s := by
  have ok : ObjOk X.prog X.w H s.heap a u := I.hok a u h
  obtain ⟨o, ho⟩ : ∃ o, s.heap.get? a = some o := by
    rcases hu with ⟨ks, rfl⟩ | ⟨ks, rfl⟩
    · obtain ⟨_, _, _, _, o, _, _, ho, _⟩ := (show ObjOk X.prog X.w H s.heap a (.dK ks) from ok)
      exact ⟨o, ho⟩
    · obtain ⟨_, _, _, _, o, _, _, ho, _⟩ := (show ObjOk X.prog X.w H s.heap a (.dT ks) from ok)
      exact ⟨o, ho⟩
  refine ⟨o, I.write (t' := s.toks) (x := a) (e := a) (h' := s.heap) (by rw [h]; rcases hu with ⟨ks, rfl⟩ | ⟨ks, rfl⟩ <;> exact True.intro) (.inl rfl) (fun _ _ _ q => q) ⟨o, ho⟩ ⟨ho, ?_⟩⟩
  rcases hu with ⟨ks, rfl⟩ | ⟨ks, rfl⟩
  · exact ok
  · obtain ⟨h1, h2, xs, h3, h4⟩ := (show ObjOk X.prog X.w H s.heap a (.dT ks) from ok)
    refine ⟨h1, h2, xs, ?_, h4⟩
    refine Paired.mono (fun p q z => ⟨z.1, ?_, z.2.2⟩) h3
    rw [upd_ne (fun e => by rw [e, h] at z; exact nomatch Option.some.inj z.2.1)]
    exact z.2.1
theorem pe_freeze {e : Expr} {t : TE} (h : PE X e t) : PE X e (fun σ H Q => t σ H fun v H1 => (∃ a u, v = .ref a ∧ H1 a = some u ∧ ((∃ ks, u = .dK ks) ∨ ∃ ks, u = .dT ks) ∧ ∀ o, Q v (upd H1 a (.frz o u)))) := ⟨fun pins s σ H Q I q =>
  thn (h.run pins s σ H _ I q) fun u s1 ⟨v, H1, I1, rv, a, w, ev, ha, hw, q1⟩ => by
    obtain ⟨o, J⟩ := Inv.freeze I1 ha hw
    exact ⟨v, _, J, rv, q1 o⟩⟩
theorem de_dic0 : DE X (.Dict [] [] pos) eDic0 := by
  refine ⟨fun W tk => PE.imp (pe_freeze pe_dnewK) fun σ H Q ⟨m, env, st, S, R, hp⟩ => ?_⟩
  refine fun p hn => ⟨p, .dK [], rfl, upd_same, .inl ⟨_, rfl⟩, fun o => ?_⟩
  have g := grow_upd (o := .frz o (.dK [])) hn
  rw [show upd (upd H p (.dK [])) p (.frz o (.dK [])) = upd H p (.frz o (.dK [])) from by funext b; by_cases z : b = p <;> simp [upd, z]]
  exact hp _ _ m (.same g) (S.grow g) (.dic upd_same .nil)
end
end
section
variable [Wtp] [Tbl]
section
variable {X : Cx} {pins : List (Addr × Obj)} {σ : L2.St} {H : Hp} {s : Shared}
/-! ## arithmetic -/
def bigOk (i j : Int) : Bool := decide (i.natAbs < 18446744073709551616) || decide (j.natAbs < 18446744073709551616)
def addD : PyData → PyData → Option PyData
  | .int i, .int j => some (.int (i + j))
  | .str x, .str y => if x.length + y.length ≤ 1000000 then some (.str (x ++ y)) else none
  | .tuple xs, .tuple ys => if xs.length + ys.length ≤ 1000000 then some (.tuple (xs ++ ys)) else none
  | .list xs, .list ys => if xs.length + ys.length ≤ 1000000 then some (.list (xs ++ ys)) else none
  | _, _ => none
def subD : PyData → PyData → Option PyData
  | .int i, .int j => some (.int (i - j))
  | _, _ => none
def mulD : PyData → PyData → Option PyData
  | .int i, .int j => if bigOk i j then some (.int (i * j)) else none
  | .tuple xs, .int k => if k = 1 then some (.tuple xs) else if 2 ≤ k ∧ k ≤ 1000 ∧ xs.length ≤ 1000 ∧ xs ≠ [] then some (.tuple (List.replicate k.toNat xs).flatten) else if xs = [] ∧ 0 ≤ k ∧ k ≤ 1000 then some (.tuple []) else none
  | .list xs, .int k => if 0 ≤ k ∧ k ≤ 1000 ∧ xs.length ≤ 1000 then some (.list (List.replicate k.toNat xs).flatten) else none
  | _, _ => none
def divD : PyData → PyData → Option PyData
  | .int i, .int j => if 0 < j ∧ j < 1073741824 then some (.int (i / j)) else if 0 < j ∧ j < 1606938044258990275541962092341162602522202993782792835301376 then some (.int (i / j)) else none
  | _, _ => none
def modD : PyData → PyData → Option PyData
  | .int i, .int j => if 0 < j then some (.int (i % j)) else none
  | _, _ => none
def powD : PyData → PyData → Option PyData
  | .int i, .int j => if 0 ≤ j ∧ j ≤ 1000 ∧ i.natAbs < 18446744073709551616 then some (.int (i ^ j.toNat)) else none
  | _, _ => none
def negD : PyData → Option PyData
  | .int i => some (.int (-i))
  | _ => none
theorem rout_here {Z : Addr → Prop} {r : PyData} {Q : VK} {v : V} (h : rOut X.K H Z r Q) (q : Rp X.K H Z v r) : Q v H := h v H (fun _ _ e => e) q
theorem rout_lst {Z : Addr → Prop} {ds : List PyData} {vs : List V} {Q : VK} (hz : ∀ a, H a = none → Z a) (h : rOut X.K H Z (.list ds) Q) (q : RpA X.K H Z vs ds) : ∀ p, H p = none → Q (.ref p) (upd H p (.lst vs)) := fun p hn =>
  h _ _ (grow_upd hn) (.lst (.inl ⟨upd_same, hz p hn⟩) (q.mv ⟨fun a xs e => grow_upd hn a _ e, fun a o u e => grow_upd hn a _ e, fun a o _ e z => ⟨grow_upd hn a _ e, z⟩⟩))
theorem rout_tup (hF : Wtp.F = false) {Z : Addr → Prop} {ds : List PyData} {vs : List V} {Q : VK} (h : rOut X.K H Z (.tuple ds) Q) (q : RpA X.K H Z vs ds) : ∀ p, H p = none → Q (.ref p) (upd H p (.tup vs)) := fun p hn =>
  h _ _ (grow_upd hn) (.tup (.inl ⟨hF, upd_same⟩) (q.mv ⟨fun a xs e => grow_upd hn a _ e, fun a o u e => grow_upd hn a _ e, fun a o _ e z => ⟨grow_upd hn a _ e, z⟩⟩))
theorem rout_new (hF : Wtp.F = true) {Z : Addr → Prop} {ds : List PyData} {vs : List V} {Q : VK} (h : rOut X.K H Z (.tuple ds) Q) (q : RpA X.K H Z vs ds) : NewT H Q vs := fun p ob hn no =>
  h _ _ (grow_upd hn) (.tup (.inr (.inr ⟨hF, ob, upd_same, no⟩)) (q.mv ⟨fun a xs e => grow_upd hn a _ e, fun a o u e => grow_upd hn a _ e, fun a o _ e z => ⟨grow_upd hn a _ e, z⟩⟩))
/-- list + list, whoever holds them -/
theorem op_catP : OpR X (binaryOp .Add) (fun x y H Q => ∃ l b xs zs, x = .ref l ∧ y = .ref b ∧ LsX X.K H l xs ∧ LsX X.K H b zs ∧ xs.length + zs.length ≤ sizeLine ∧ ∀ p, H p = none → Q (.ref p) (upd H p (.lst (xs ++ zs)))) := by
  intro pins s σ H x y v u Q I rx ry h
  obtain ⟨l, b, xs, zs, rfl, rfl, hH, hB, hz, q⟩ := h
  cases rx
  cases ry
  obtain ⟨its, n, r, e, _, l1⟩ := Inv.lsx I hH
  obtain ⟨its2, n2, r2, e2, _, l2⟩ := Inv.lsx I hB
  refine PySem.P.add_list e e2 ?_ (by rw [List.size_toArray, List.size_toArray]; omega)
  have ea : its.toArray ++ its2.toArray = (its ++ its2).toArray := by simp
  rw [ea]
  exact ⟨.ref _, _, I.lnew (t' := s.toks) (r.append r2) (by rw [List.length_append]; omega), rfl, q _ I.fresh⟩
theorem o_add : OpR X (binaryOp .Add) (rD X.K addD) := by
  intro pins s σ H x y v u Q I rx ry ⟨Z, d, e, r, hz, hd, he, hf, ho⟩
  unfold addD at hf
  split at hf
  · cases hf
    exact op_add pins s σ H x y v u Q I rx ry ⟨_, _, hd.int, he.int, rout_here ho (.int _)⟩
  · split at hf
    · cases hf
      exact op_add_str pins s σ H x y v u Q I rx ry ⟨_, _, hd.str, he.str, Nat.le_trans (by assumption) line_lim, rout_here ho (.str _)⟩
    · cases hf
  · split at hf
    · cases hf
      obtain ⟨a, vs, rfl, h1, h2⟩ := hd.tupT
      obtain ⟨b, ws, rfl, k1, k2⟩ := he.tupT
      have l1 := h2.len
      have l2 := k2.len
      have le : vs.length + ws.length ≤ sizeLine := Nat.le_trans (by omega) line_lim
      have left : vs = [] → Q (.ref b) H := fun e => by
        subst e
        cases h2
        exact rout_here ho (.tup k1 k2)
      have right : ws = [] → Q (.ref a) H := fun e => by
        subst e
        cases k2
        rw [List.append_nil] at ho
        exact rout_here ho (.tup h1 h2)
      cases hF : Wtp.F with
      | false => exact op_catA pins s σ H _ _ v u Q I rx ry ⟨a, b, vs, ws, rfl, rfl, h1.sq, k1.sq, le, left, fun _ => right, fun _ _ => rout_tup hF ho (h2.app k2)⟩
      | true => exact op_catN pins s σ H _ _ v u Q I rx ry ⟨a, b, vs, ws, rfl, rfl, h1.sq, k1.sq, le, left, fun _ => right, fun _ _ => rout_new hF ho (h2.app k2)⟩
    · cases hf
  · split at hf
    · cases hf
      obtain ⟨a, vs, rfl, h1, h2⟩ := hd.lst
      obtain ⟨b, ws, rfl, k1, k2⟩ := he.lst
      have l1 := h2.len
      have l2 := k2.len
      exact op_catP pins s σ H _ _ v u Q I rx ry ⟨a, b, vs, ws, rfl, rfl, h1, k1, Nat.le_trans (by omega) line_lim, rout_lst hz ho (h2.app k2)⟩
    · cases hf
  · cases hf
theorem o_sub : OpR X (binaryOp .Sub) (rD X.K subD) := by
  intro pins s σ H x y v u Q I rx ry ⟨Z, d, e, r, hz, hd, he, hf, ho⟩
  unfold subD at hf
  split at hf
  · cases hf
    exact op_sub pins s σ H x y v u Q I rx ry ⟨_, _, hd.int, he.int, rout_here ho (.int _)⟩
  · cases hf
theorem cmul_of {i j : Int} (h : bigOk i j = true) : CMul i j := by
  unfold bigOk at h
  rw [Bool.or_eq_true, decide_eq_true_eq, decide_eq_true_eq] at h
  rcases h with h | h
  · exact .inl ⟨by omega, by omega⟩
  · exact .inr ⟨by omega, by omega⟩
theorem RpA.rep {K : Frg} {H : Hp} {Z : Addr → Prop} {vs : List V} {ds : List PyData} (h : RpA K H Z vs ds) : ∀ n : Nat, RpA K H Z (List.replicate n vs).flatten (List.replicate n ds).flatten
  | 0 => .nil
  | n + 1 => by
    rw [List.replicate_succ, List.replicate_succ, List.flatten_cons, List.flatten_cons]
    exact h.app (RpA.rep h n)
/-- list * int, whoever holds it -/
theorem op_repP : OpR X (binaryOp .Mult) (fun x y H Q => ∃ l k xs, x = .ref l ∧ y = .int k ∧ LsX X.K H l xs ∧ 0 ≤ k ∧ k ≤ 1000 ∧ xs.length ≤ 1000 ∧ ∀ p, H p = none → Q (.ref p) (upd H p (.lst (List.replicate k.toNat xs).flatten))) := by
  intro pins s σ H x y v u Q I rx ry h
  obtain ⟨l, k, xs, rfl, rfl, hH, h1, h2, hl, q⟩ := h
  cases rx
  obtain ⟨t, rfl⟩ := ry
  obtain ⟨its, n, r, e, _, l1⟩ := Inv.lsx I hH
  have line := line_lim
  have small : its.toArray.size * k.toNat ≤ 1000000 := by
    rw [List.size_toArray]
    exact Nat.le_trans (Nat.mul_le_mul (show its.length ≤ 1000 by omega) (show k.toNat ≤ 1000 by omega)) (by decide)
  have c1 : ¬ its.toArray.size * k.toNat > (2 ^ 63 - 1) / 8 := by omega
  have c2 : ¬ (!Builtin.List.listFitsIndex k) = true := by
    rw [fitsIndex_both (by omega) (by omega)]
    exact Bool.false_ne_true
  have c3 : ¬ Builtin.List.listTooLong (its.toArray.size * k.toNat) = true := by
    rw [notLongL (by omega)]
    exact Bool.false_ne_true
  have made : List.foldl (fun a b => a ++ b) #[] (List.replicate (if its.toArray.isEmpty = true then 0 else k.toNat) its.toArray) = (List.replicate k.toNat its).flatten.toArray := by
    rw [size_rep]
    cases its with
    | nil => simp
    | cons a r' => rw [if_neg (by simp)]
  have big : (List.replicate k.toNat xs).flatten.length ≤ sizeLine := by
    rw [PyProof.Rows.lm_len_rep_flat]
    exact Nat.le_trans (Nat.mul_le_mul (show k.toNat ≤ 1000 by omega) hl) (Nat.le_trans (by decide) line)
  refine wpAny_binaryOp_repeat_ref (T := "list") (U := "int") (by decide) ⟨_, e, rfl⟩ (fun s' => typeIs_int s' k t) noFill_list_mul F.fills_int_mul F.slot_int_rmul repeat_list F.slot_int_index.lookup ?_
  refine call_meets F.slot_int_rmul (typeIs_int s k t) F.entry_int_rmul (F.args_int_rmul_2 _ _) (int___rmul___int_list k t l its.toArray n) ⟨e, rfl, ⟨_, e, rfl⟩, ?_⟩
  refine call_meets F.slot_list_mul ⟨_, e, rfl⟩ F.entry_list_mul (F.args_list_mul_2 _ _) (AutoListH.list___mul___list_int_3 l its.toArray n k t c2 c1 c3) ⟨e, ?_⟩
  rw [made]
  exact ⟨.ref _, _, I.lnew (t' := s.toks) (r.rep k.toNat) big, rfl, q _ I.fresh⟩
theorem tuple_mulS (l : Addr) (items : Array Value) (n : Nat) (dd : Option Addr) (sl : Array (Option Value)) (x : Int) (u : Tok) (c0 : (decide (x < -(2 ^ 63)) || decide (x ≥ 2 ^ 63)) = false) (c1 : (items.isEmpty || x == 1) = true) :
    Meets (Builtin.«tuple.__mul__» ⟨[.ref l, .int x u], []⟩) (fun _ R s => s.heap.get? l = some { cls := .type "tuple", dict := dd, data := .seq items n, slots := sl } ∧ R (.ok (.ret (Value.ref l))) s) :=
  .of_wp fun prog w A R s h => by
    obtain ⟨hp, g, d, tk, os⟩ := s
    obtain ⟨hl, h⟩ := h
    have f1 := AutoSeq1.idx_int
    wp_walk using wpAny_loadPart' hl
    repeat (first
      | (refine wpAny_ite_false (decide_eq_false (by rw [c0]; exact Bool.false_ne_true)) ?_; wp_walk using wpAny_loadPart' hl)
      | (refine wpAny_ite_false (decide_eq_false (by decide)) ?_; wp_walk using wpAny_loadPart' hl)
      | (refine wpAny_ite_true c1 ?_; wp_walk using wpAny_loadPart' hl))
    exact ⟨_, rfl, h⟩
theorem op_repT1 : OpR X (binaryOp .Mult) (fun x y H Q => ∃ l k xs, x = .ref l ∧ y = .int k ∧ SqT X.K H l xs ∧ (k = 1 ∨ xs = []) ∧ 0 ≤ k ∧ k ≤ 1000 ∧ Q (.ref l) H) := by
  intro pins s σ H x y v u Q I rx ry h
  obtain ⟨l, k, xs, rfl, rfl, hT, hk, k0, k1, q⟩ := h
  cases rx
  obtain ⟨t, rfl⟩ := ry
  obtain ⟨its, r, ⟨⟨cls, dd, data, sl⟩, ho, hc, n, hd⟩, hs⟩ := I.tuple hT
  simp only at hc hd
  subst hc hd
  have c1 : (its.toArray.isEmpty || k == 1) = true := by
    rcases hk with rfl | rfl
    · simp
    · cases r
      simp
  have c0 : (decide (k < -(2 ^ 63)) || decide (k ≥ 2 ^ 63)) = false := by
    rw [Bool.or_eq_false_iff]
    exact ⟨decide_eq_false (by omega), decide_eq_false (by omega)⟩
  refine wpAny_binaryOp_repeat_ref (T := "tuple") (U := "int") (by decide) ⟨_, ho, rfl⟩ (fun s' => typeIs_int s' k t) noFill_tuple_mul F.fills_int_mul F.slot_int_rmul repeat_tuple F.slot_int_index.lookup
    (call_meets F.slot_int_rmul (typeIs_int s k t) F.entry_int_rmul (F.args_int_rmul_2 _ _) (int_rmul_tuple k t l its.toArray n dd sl)
      ⟨ho, rfl, ⟨_, ho, rfl⟩, call_meets F.slot_tuple_mul ⟨_, ho, rfl⟩ F.entry_tuple_mul (F.args_tuple_mul_2 _ _) (tuple_mulS l its.toArray n dd sl k t c0 c1) ⟨ho, ?_⟩⟩)
  exact ⟨.ref l, H, I, rfl, q⟩
theorem o_mul : OpR X (binaryOp .Mult) (rD X.K mulD) := by
  intro pins s σ H x y v u Q I rx ry ⟨Z, d, e, r, hz, hd, he, hf, ho⟩
  unfold mulD at hf
  split at hf
  · split at hf
    · cases hf
      exact op_mul pins s σ H x y v u Q I rx ry ⟨_, _, hd.int, he.int, cmul_of (by assumption), rout_here ho (.int _)⟩
    · cases hf
  · split at hf
    · rename_i h
      cases hf
      subst h
      have ey := he.int
      subst ey
      obtain ⟨a, vs, rfl, h1, h2⟩ := hd.tupT
      exact op_repT1 pins s σ H _ _ v u Q I rx ry ⟨a, 1, vs, rfl, rfl, h1.sq, .inl rfl, by decide, by decide, rout_here ho (.tup h1 h2)⟩
    rename_i hk1
    split at hf
    · rename_i h
      cases hf
      obtain ⟨a, vs, rfl, h1, h2⟩ := hd.tup
      have l1 := h2.len
      have ne : vs ≠ [] := fun e => by
        subst e
        cases h2
        exact h.2.2.2 rfl
      cases hF : Wtp.F with
      | false => exact op_repT pins s σ H _ _ v u Q I rx ry ⟨a, _, vs, rfl, he.int, h1, ne, h.1, h.2.1, by omega, rout_tup hF ho (h2.rep _)⟩
      | true => exact op_repN pins s σ H _ _ v u Q I rx ry ⟨a, _, vs, rfl, he.int, h1, ne, h.1, h.2.1, by omega, rout_new hF ho (h2.rep _)⟩
    rename_i hk2
    split at hf
    · rename_i h
      cases hf
      have ey := he.int
      subst ey
      obtain ⟨rfl, h0, h9⟩ := h
      obtain ⟨a, vs, rfl, h1, h2⟩ := hd.tupT
      have ev : vs = [] := by cases h2; rfl
      exact op_repT1 pins s σ H _ _ v u Q I rx ry ⟨a, _, vs, rfl, rfl, h1.sq, .inr ev, h0, h9, rout_here ho (.tup h1 h2)⟩
    · cases hf
  · split at hf
    · rename_i h
      cases hf
      obtain ⟨a, vs, rfl, h1, h2⟩ := hd.lst
      have l1 := h2.len
      exact op_repP pins s σ H _ _ v u Q I rx ry ⟨a, _, vs, rfl, he.int, h1, h.1, h.2.1, by omega, rout_lst hz ho (h2.rep _)⟩
    · cases hf
  · cases hf
theorem op_fdivW : OpR X (binaryOp .FloorDiv) (rI (fun _ j => 0 < j ∧ j < 1606938044258990275541962092341162602522202993782792835301376) fun i j => .int (i / j)) := opI fun i j _ _ _ _ _ hc q => by
  have h1 : (0 : Int) < j := hc.1
  have h2 : j < 1606938044258990275541962092341162602522202993782792835301376 := hc.2
  have h3 : j.natAbs.log2 < 9000 := Nat.lt_of_lt_of_le ((Nat.log2_lt (by omega)).mpr (show j.natAbs < 2 ^ 200 by omega)) (by decide)
  exact floordiv_int (by omega) (by rw [Int.fdiv_eq_ediv_of_nonneg i (by omega)]; exact q) (.inl (PyProof.noPylong_of_log2 h3))
theorem o_div : OpR X (binaryOp .FloorDiv) (rD X.K divD) := by
  intro pins s σ H x y v u Q I rx ry ⟨Z, d, e, r, hz, hd, he, hf, ho⟩
  unfold divD at hf
  split at hf
  · split at hf
    · cases hf
      exact op_fdiv pins s σ H x y v u Q I rx ry ⟨_, _, hd.int, he.int, by assumption, rout_here ho (.int _)⟩
    · split at hf
      · cases hf
        exact op_fdivW pins s σ H x y v u Q I rx ry ⟨_, _, hd.int, he.int, by assumption, rout_here ho (.int _)⟩
      · cases hf
  · cases hf
theorem divD_ok {i j : Int} (h : 0 < j) (h2 : j < 1606938044258990275541962092341162602522202993782792835301376) : divD (.int i) (.int j) = some (.int (i / j)) := by
  show (if 0 < j ∧ j < 1073741824 then some (PyData.int (i / j)) else if 0 < j ∧ j < 1606938044258990275541962092341162602522202993782792835301376 then some (.int (i / j)) else none) = _
  by_cases q : j < 1073741824
  · rw [if_pos ⟨h, q⟩]
  · rw [if_neg (fun z => q z.2), if_pos ⟨h, h2⟩]
theorem o_mod : OpR X (binaryOp .Mod) (rD X.K modD) := by
  intro pins s σ H x y v u Q I rx ry ⟨Z, d, e, r, hz, hd, he, hf, ho⟩
  unfold modD at hf
  split at hf
  · split at hf
    · cases hf
      exact op_mod pins s σ H x y v u Q I rx ry ⟨_, _, hd.int, he.int, by assumption, rout_here ho (.int _)⟩
    · cases hf
  · cases hf
theorem o_pow : OpR X (binaryOp .Pow) (rD X.K powD) := by
  intro pins s σ H x y v u Q I rx ry ⟨Z, d, e, r, hz, hd, he, hf, ho⟩
  unfold powD at hf
  split at hf
  · split at hf
    · rename_i h
      cases hf
      exact op_pow pins s σ H x y v u Q I rx ry ⟨_, _, hd.int, he.int, ⟨h.1, by omega, by have := h.2.2; omega⟩, rout_here ho (.int _)⟩
    · cases hf
  · cases hf
theorem o_neg : UnR X (unaryOp .USub) (rU1 X.K negD) := by
  intro pins s σ H x v Q I rx ⟨Z, d, r, hz, hd, hf, ho⟩
  unfold negD at hf
  split at hf
  · cases hf
    exact un_neg pins s σ H x v Q I rx ⟨_, hd.int, rout_here ho (.int _)⟩
  · cases hf
end
end
section
variable [Wtp] [Tbl]
section
variable {X : Cx} {pins : List (Addr × Obj)} {σ : L2.St} {H : Hp} {s : Shared}
/-! ## comparisons -/
def cmpOk (a b : PyData) : Bool := a.plain && (b.plain && decide (min a.depth b.depth ≤ 40))
def eqD (a b : PyData) : Option PyData := if cmpOk a b then some (.bool (PyData.eqv a b)) else none
def neD (a b : PyData) : Option PyData := if cmpOk a b then some (.bool (!PyData.eqv a b)) else none
def isNone : PyData → Bool
  | .none => true
  | _ => false
def ltD' (a b : PyData) : Bool := PySem.W.alike a b && (!isNone a && decide (min a.depth b.depth ≤ 40))
def ltD : PyData → PyData → Option PyData
  | .int i, .int j => some (.bool (decide (i < j)))
  | a, b => if ltD' a b then some (.bool (PySem.W.dataLt a b)) else none
def gtD : PyData → PyData → Option PyData
  | .int i, .int j => some (.bool (decide (j < i)))
  | a, b => if ltD' a b then some (.bool (PySem.W.dataLt b a)) else none
def leD : PyData → PyData → Option PyData
  | .int i, .int j => some (.bool (decide (i ≤ j)))
  | a, b => if ltD' a b then some (.bool (!PySem.W.dataLt b a)) else none
def geD : PyData → PyData → Option PyData
  | .int i, .int j => some (.bool (decide (j ≤ i)))
  | a, b => if ltD' a b then some (.bool (!PySem.W.dataLt a b)) else none
def isND (a b : PyData) : Option PyData := if isNone b then some (.bool (isNone a)) else none
def ntND (a b : PyData) : Option PyData := if isNone b then some (.bool (!isNone a)) else none
theorem rout_bl {Z : Addr → Prop} {b : Bool} {Q : VK} {I : Inv X pins σ H s} (h : rOut X.K H Z (.bool b) Q) : EP X pins σ Q (.bool b) s := ⟨.bl b, H, I, rfl, rout_here h (.bl b)⟩
theorem room_eq {k n : Nat} {A : Around} (hr : L2H.RoomH k A) (h : n ≤ 60) : A.units + n < cLine := by have := hr.un; omega
theorem o_eq {k : Nat} (hr : L2H.RoomH k X.A) : OpR X (compareOp .Eq) (rD X.K eqD) := by
  intro pins s σ H x y v u Q I rx ry ⟨Z, d, e, r, hz, hd, he, hf, ho⟩
  unfold eqD at hf
  split at hf
  · rename_i h
    cases hf
    unfold cmpOk at h
    simp only [Bool.and_eq_true, decide_eq_true_eq] at h
    obtain ⟨as, r1⟩ := Inv.rt I hd rx
    obtain ⟨bs, r2⟩ := Inv.rt I he ry
    exact PySem.SeqAt.eq_plain r1 r2 h.1 h.2.1 (room_eq hr (by omega)) (rout_bl (I := I) ho)
  · cases hf
theorem o_ne {k : Nat} (hr : L2H.RoomH k X.A) : OpR X (compareOp .NotEq) (rD X.K neD) := by
  intro pins s σ H x y v u Q I rx ry ⟨Z, d, e, r, hz, hd, he, hf, ho⟩
  unfold neD at hf
  split at hf
  · rename_i h
    cases hf
    unfold cmpOk at h
    simp only [Bool.and_eq_true, decide_eq_true_eq] at h
    obtain ⟨as, r1⟩ := Inv.rt I hd rx
    obtain ⟨bs, r2⟩ := Inv.rt I he ry
    exact PySem.SeqAt.ne_plain r1 r2 h.1 h.2.1 (room_eq hr (by omega)) (rout_bl (I := I) ho)
  · cases hf
theorem ltD_of {a b : PyData} (h : ltD' a b = true) : PySem.W.alike a b = true ∧ a ≠ .none ∧ min a.depth b.depth ≤ 40 := by
  unfold ltD' at h
  simp only [Bool.and_eq_true, decide_eq_true_eq, Bool.not_eq_true'] at h
  refine ⟨h.1, fun e => ?_, h.2.2⟩
  subst e
  exact absurd h.2.1 (by decide)
theorem o_lt {k : Nat} (hr : L2H.RoomH k X.A) : OpR X (compareOp .Lt) (rD X.K ltD) := by
  intro pins s σ H x y v u Q I rx ry ⟨Z, d, e, r, hz, hd, he, hf, ho⟩
  unfold ltD at hf
  split at hf
  · cases hf
    exact op_lt pins s σ H x y v u Q I rx ry ⟨_, _, hd.int, he.int, rout_here ho (.bl _)⟩
  · split at hf
    · rename_i h
      cases hf
      obtain ⟨h1, h2, h3⟩ := ltD_of h
      obtain ⟨as, r1⟩ := Inv.rt I hd rx
      obtain ⟨bs, r2⟩ := Inv.rt I he ry
      exact PySem.W.lt_data r1 r2 h1 h2 (room_eq hr (by omega)) (rout_bl (I := I) ho)
    · cases hf
theorem o_gt {k : Nat} (hr : L2H.RoomH k X.A) : OpR X (compareOp .Gt) (rD X.K gtD) := by
  intro pins s σ H x y v u Q I rx ry ⟨Z, d, e, r, hz, hd, he, hf, ho⟩
  unfold gtD at hf
  split at hf
  · cases hf
    exact op_gt pins s σ H x y v u Q I rx ry ⟨_, _, hd.int, he.int, rout_here ho (.bl _)⟩
  · split at hf
    · rename_i h
      cases hf
      obtain ⟨h1, h2, h3⟩ := ltD_of h
      obtain ⟨as, r1⟩ := Inv.rt I hd rx
      obtain ⟨bs, r2⟩ := Inv.rt I he ry
      exact PySem.W.gt_data r1 r2 h1 h2 (room_eq hr (by omega)) (rout_bl (I := I) ho)
    · cases hf
theorem o_le {k : Nat} (hr : L2H.RoomH k X.A) : OpR X (compareOp .LtE) (rD X.K leD) := by
  intro pins s σ H x y v u Q I rx ry ⟨Z, d, e, r, hz, hd, he, hf, ho⟩
  unfold leD at hf
  split at hf
  · cases hf
    exact op_le pins s σ H x y v u Q I rx ry ⟨_, _, hd.int, he.int, rout_here ho (.bl _)⟩
  · split at hf
    · rename_i h
      cases hf
      obtain ⟨h1, h2, h3⟩ := ltD_of h
      obtain ⟨as, r1⟩ := Inv.rt I hd rx
      obtain ⟨bs, r2⟩ := Inv.rt I he ry
      exact PySem.W.le_data r1 r2 h1 h2 (room_eq hr (by omega)) (rout_bl (I := I) ho)
    · cases hf
theorem o_ge {k : Nat} (hr : L2H.RoomH k X.A) : OpR X (compareOp .GtE) (rD X.K geD) := by
  intro pins s σ H x y v u Q I rx ry ⟨Z, d, e, r, hz, hd, he, hf, ho⟩
  unfold geD at hf
  split at hf
  · cases hf
    exact op_ge pins s σ H x y v u Q I rx ry ⟨_, _, hd.int, he.int, rout_here ho (.bl _)⟩
  · split at hf
    · rename_i h
      cases hf
      obtain ⟨h1, h2, h3⟩ := ltD_of h
      obtain ⟨as, r1⟩ := Inv.rt I hd rx
      obtain ⟨bs, r2⟩ := Inv.rt I he ry
      exact PySem.W.ge_data r1 r2 h1 h2 (room_eq hr (by omega)) (rout_bl (I := I) ho)
    · cases hf
theorem isNone_v {Z : Addr → Prop} {x : V} {d : PyData} (h : RT X.K H Z x d) : decide (x = .non) = isNone d := by
  cases d with
  | none => rw [h.non]; rfl
  | bool b => rw [h.bl]; rfl
  | int i => rw [h.int]; rfl
  | str x => rw [h.str]; rfl
  | list xs => obtain ⟨a, vs, rfl, _⟩ := h.lst; rfl
  | tuple xs => obtain ⟨a, vs, rfl, _⟩ := h.tup; rfl
  | dict xs => obtain ⟨a, rfl, _⟩ := h.dic; rfl
theorem o_isN : OpR X (compareOp .Is) (rD X.K isND) := by
  intro pins s σ H x y v u Q I rx ry ⟨Z, d, e, r, hz, hd, he, hf, ho⟩
  unfold isND at hf
  split at hf
  · rename_i h
    cases hf
    have h2 := isNone_v he
    rw [h, decide_eq_true_eq] at h2
    exact op_isN pins s σ H x y v u Q I rx ry ⟨h2, by rw [isNone_v hd]; exact rout_here ho (.bl _)⟩
  · cases hf
/-! ## in, not in -/
def inOk (d : PyData) (xs : List PyData) : Bool := d.plain && (PyData.plainAll xs && decide (min (PyData.depthAll xs) d.depth ≤ 40))
def hasKey (es : List (PyData × PyData)) (k : Key) : Bool := es.any fun e => decide (keyD e.1 = some k)
def kindK : List (PyData × PyData) → Bool
  | [] => true
  | (c, _) :: _ => (keyD c).isSome
def kindT : List (PyData × PyData) → Bool
  | [] => true
  | (c, _) :: _ => (tkD c).isSome
/-- a look-up of a tuple -/
def dLookT (es : List (PyData × PyData)) (k : List Key) : Option PyData := (es.find? fun e => decide (tkD e.1 = some k)).map (·.2)
def inB (d : PyData) : PyData → Option Bool
  | .list xs => if inOk d xs then some (xs.any fun y => PyData.eqv y d) else none
  | .tuple xs => if inOk d xs then some (xs.any fun y => PyData.eqv y d) else none
  | .dict es => match keyD d with
    | some k => if kindK es = true then some (hasKey es k) else none
    | none => match tkD d with
      | some ks => if kindT es = true then some (dLookT es ks).isSome else none
      | none => none
  | .str z => match d with
    | .str x => some (!(Builtin.Str.occurrences z x 0 z.length 1).isEmpty)
    | _ => none
  | _ => none
def inD (d c : PyData) : Option PyData := (inB d c).map .bool
def niD (d c : PyData) : Option PyData := (inB d c).map fun b => .bool (!b)
theorem inOk_of {d : PyData} {xs : List PyData} (h : inOk d xs = true) : d.plain = true ∧ PyData.plainAll xs = true ∧ min (PyData.depthAll xs) d.depth ≤ 40 := by
  unfold inOk at h
  simp only [Bool.and_eq_true, decide_eq_true_eq] at h
  exact ⟨h.1, h.2.1, h.2.2⟩
theorem keyD_v {Z : Addr → Prop} {x : V} {d : PyData} {k : Key} (h : RT X.K H Z x d) (e : keyD d = some k) : x = kV k := by
  cases d with
  | int i => cases e; exact h.int
  | str y => cases e; exact h.str
  | _ => cases e
/-- a dict's look-up -/
def dLook (es : List (PyData × PyData)) (k : Key) : Option PyData := (es.find? fun e => decide (keyD e.1 = some k)).map (·.2)
theorem dLook_rp {Z : Addr → Prop} {ks : List (Key × V)} {es : List (PyData × PyData)} (k : Key) (h : RpK X.K H Z ks es) :
    (∃ v d, valV ks k = some v ∧ dLook es k = some d ∧ Rp X.K H Z v d) ∨ (valV ks k = none ∧ dLook es k = none) := by
  induction ks generalizing es with
  | nil => cases h; exact .inr ⟨rfl, rfl⟩
  | cons p ks ih =>
    cases h with
    | @cons k0 v _ c d es h0 h1 h2 =>
      by_cases e : k0 = k
      · refine .inl ⟨v, d, valV_pos e, ?_, h1⟩
        unfold dLook
        rw [List.find?_cons_of_pos (by rw [h0, e]; simp)]
        rfl
      · have e2 : dLook ((c, d) :: es) k = dLook es k := by
          unfold dLook
          rw [List.find?_cons_of_neg (by rw [h0]; simpa using e)]
        rw [valV_neg (p := (k0, v)) e, e2]
        exact ih h2
theorem hasKey_look (es : List (PyData × PyData)) (k : Key) : hasKey es k = (dLook es k).isSome := by
  unfold hasKey dLook
  rw [Option.isSome_map, List.isSome_find?]
theorem valV_has {Z : Addr → Prop} {ks : List (Key × V)} {es : List (PyData × PyData)} (k : Key) (h : RpK X.K H Z ks es) : (valV ks k).isSome = hasKey es k := by
  rw [hasKey_look]
  rcases dLook_rp k h with ⟨v, d, e1, e2, _⟩ | ⟨e1, e2⟩
  · rw [e1, e2]; rfl
  · rw [e1, e2]; rfl
theorem tkD_keyD {c : PyData} {k : List Key} (h : tkD c = some k) : keyD c = none := by cases c <;> first | rfl | cases h
theorem dLookT_rp {Z : Addr → Prop} {ks : List (List Key × V)} {es : List (PyData × PyData)} (k : List Key) (h : RpT X.K H Z ks es) :
    (∃ v d, valV ks k = some v ∧ dLookT es k = some d ∧ Rp X.K H Z v d) ∨ (valV ks k = none ∧ dLookT es k = none) := by
  induction ks generalizing es with
  | nil => cases h; exact .inr ⟨rfl, rfl⟩
  | cons p ks ih =>
    cases h with
    | @cons k0 v _ c d es h0 h1 h2 =>
      by_cases e : k0 = k
      · refine .inl ⟨v, d, valV_pos e, ?_, h1⟩
        unfold dLookT
        rw [List.find?_cons_of_pos (by rw [h0, e]; simp)]
        rfl
      · have e2 : dLookT ((c, d) :: es) k = dLookT es k := by
          unfold dLookT
          rw [List.find?_cons_of_neg (by rw [h0]; simpa using e)]
        rw [valV_neg (p := (k0, v)) e, e2]
        exact ih h2
theorem valV_hasT {Z : Addr → Prop} {ks : List (List Key × V)} {es : List (PyData × PyData)} (k : List Key) (h : RpT X.K H Z ks es) : (valV ks k).isSome = (dLookT es k).isSome := by
  rcases dLookT_rp k h with ⟨v, d, e1, e2, _⟩ | ⟨e1, e2⟩
  · rw [e1, e2]; rfl
  · rw [e1, e2]; rfl
theorem dLook_T {Z : Addr → Prop} {ks : List (List Key × V)} {es : List (PyData × PyData)} (k : Key) (h : RpT X.K H Z ks es) : dLook es k = none := by
  induction ks generalizing es with
  | nil => cases h; rfl
  | cons p ks ih =>
    cases h with
    | @cons k0 v _ c d es h0 h1 h2 =>
      unfold dLook
      rw [List.find?_cons_of_neg (by rw [tkD_keyD h0]; simp)]
      exact ih h2
theorem dLookT_K {Z : Addr → Prop} {ks : List (Key × V)} {es : List (PyData × PyData)} (k : List Key) (h : RpK X.K H Z ks es) : dLookT es k = none := by
  induction ks generalizing es with
  | nil => cases h; rfl
  | cons p ks ih =>
    cases h with
    | @cons k0 v _ c d es h0 h1 h2 =>
      have n : tkD c = none := by cases c <;> first | rfl | cases h0
      unfold dLookT
      rw [List.find?_cons_of_neg (by rw [n]; simp)]
      exact ih h2
/-- a key that is a tuple -/
theorem tkD_v {Z : Addr → Prop} {x : V} {d : PyData} {k : List Key} (h : RT X.K H Z x d) (e : tkD d = some k) : ∃ b, x = .ref b ∧ SqT X.K H b (k.map kV) := by
  cases d with
  | tuple ds =>
    obtain ⟨b, vs, rfl, h1, h2⟩ := h.tup
    have : ∀ {vs : List V} {ds : List PyData} {k : List Key}, RpA X.K H Z vs ds → keysD ds = some k → vs = k.map kV := by
      intro vs ds
      induction ds generalizing vs with
      | nil => intro k r e; cases e; cases r; rfl
      | cons d ds ih =>
        intro k r e
        unfold keysD at e
        split at e
        · rename_i k0 ks e1 e2
          cases e
          cases r with
          | cons r1 r2 => rw [List.map_cons, ih r2 e2, keyD_v (Z := Z) (.inl r1) e1]
        · cases e
    rw [this h2 (show keysD ds = some k from e)] at h1
    exact ⟨b, rfl, h1⟩
  | _ => cases e
theorem key_ofS (I : Inv X pins σ H s) {b : Addr} {ks : List Key} (h : SqT X.K H b (ks.map kV)) : (tupleKind (mixKind X.prog X.w)).is s.heap ks b := by
  obtain ⟨its, rv, ⟨o, ho, hc, n, hd⟩, _⟩ := I.tuple h
  exact ⟨o, its.toArray, n, ho, hc, hd, by simpa using items_are rv⟩
theorem dkT_k {Z : Addr → Prop} {a : Addr} {es : List (PyData × PyData)} (I : Inv X pins σ H s) (h : DkT X.K H Z a es) (hk : kindK es = true) : (a == sysModules) = false ∧ ∃ kvs vs, RpK X.K H Z kvs es ∧ KV kvs vs ∧ s.heap.DictOf (mixKind X.prog X.w) a vs := by
  rcases h with ⟨ks, h1, h2⟩ | ⟨ks, h1, h2⟩
  · obtain ⟨_, hd, vs, rel, dd⟩ := dk_rd I.hok h1
    exact ⟨hd, ks, vs, h2, rel, dd⟩
  · cases h2 with
    | nil =>
      obtain ⟨_, hd, xs, r, o, ents, ep, ho, hc, he, hl, _⟩ := (show ObjOk X.prog X.w H s.heap a (.dT []) from h1.ok I.hok)
      cases r
      have e0 : ents = #[] := by
        have : ents.toList = [] := hl
        simpa using this
      subst e0
      exact ⟨hd, [], [], .nil, .nil, o, #[], ep, ho, hc, he, fun e he2 => absurd he2 (by simp), .nil, List.nodup_nil⟩
    | @cons k v kvs c d es h0 _ _ =>
      have hk : (keyD c).isSome = true := hk
      rw [tkD_keyD h0] at hk
      cases hk
theorem dkT_t {Z : Addr → Prop} {a : Addr} {es : List (PyData × PyData)} (I : Inv X pins σ H s) (h : DkT X.K H Z a es) (hk : kindT es = true) : (a == sysModules) = false ∧ ∃ kvs xs, RpT X.K H Z kvs es ∧ KT H kvs xs ∧ s.heap.DictOfH (tupleKind (mixKind X.prog X.w)) a xs := by
  rcases h with ⟨ks, h1, h2⟩ | ⟨ks, h1, h2⟩
  · cases h2 with
    | nil =>
      obtain ⟨_, hd, vs, rel, o, ents, ep, ho, hc, he, _, hp, _⟩ := (show ObjOk X.prog X.w H s.heap a (.dK []) from h1.ok I.hok)
      cases rel
      have e0 : ents.toList = [] := by generalize ents.toList = l at hp; cases hp; rfl
      exact ⟨hd, [], [], .nil, .nil, o, ents, ep, ho, hc, he, e0, fun x hx => absurd hx List.not_mem_nil, List.nodup_nil⟩
    | @cons k v kvs c d es h0 _ _ =>
      have hk : (tkD c).isSome = true := hk
      have n : tkD c = none := by cases c <;> first | rfl | cases h0
      rw [n] at hk
      cases hk
  · obtain ⟨_, hd, xs, rel, dd⟩ := dt_rd I.hok h1
    exact ⟨hd, ks, xs, h2, rel, dd⟩
theorem o_in {k : Nat} (hr : L2H.RoomH k X.A) : OpR X (compareOp .In) (rD X.K inD) := by
  intro pins s σ H x y v u Q I rx ry ⟨Z, d, e, r, hz, hd, he, hf, ho⟩
  unfold inD at hf
  cases q : inB d e with
  | none => rw [q] at hf; cases hf
  | some b =>
    rw [q] at hf
    cases hf
    unfold inB at q
    split at q
    · split at q
      · rename_i h
        cases q
        obtain ⟨h1, h2, h3⟩ := inOk_of h
        obtain ⟨as, r1⟩ := Inv.rt I hd rx
        obtain ⟨bs, r2⟩ := Inv.rt I he ry
        exact PySem.SeqAt.in_list_data r2 r1 h2 h1 (by have := room_eq hr (show 60 ≤ 60 by decide); omega) (rout_bl (I := I) ho)
      · cases q
    · split at q
      · rename_i h
        cases q
        obtain ⟨h1, h2, h3⟩ := inOk_of h
        obtain ⟨as, r1⟩ := Inv.rt I hd rx
        obtain ⟨bs, r2⟩ := Inv.rt I he ry
        exact PySem.SeqAt.in_tuple_data r2 r1 h2 h1 (by have := room_eq hr (show 60 ≤ 60 by decide); omega) (rout_bl (I := I) ho)
      · cases q
    · split at q
      · rename_i kk hk
        split at q
        · rename_i kd
          cases q
          obtain ⟨a, rfl, h1⟩ := he.dic
          cases ry
          have e1 := keyD_v hd hk
          subst e1
          obtain ⟨hsm, kvs, vs, h2, rel, dd⟩ := dkT_k I h1 kd
          refine wpAny_in_of (kV_is rx) hsm dd.mapOf ?_
          rw [← (rel.val kk).isSome_eq, valV_has kk h2]
          exact ⟨.bl _, H, I.tok _, rfl, rout_here ho (.bl _)⟩
        · cases q
      · split at q
        · rename_i ks hk
          split at q
          · rename_i kd
            cases q
            obtain ⟨a, rfl, h1⟩ := he.dic
            cases ry
            obtain ⟨b, rfl, h3⟩ := tkD_v hd hk
            cases rx
            obtain ⟨hsm, kvs, xs, h2, rel, dd⟩ := dkT_t I h1 kd
            refine wpAny_in_heap (tupleKind_room_in1 (room_eq hr (show 1 ≤ 60 by decide))) (key_ofS I h3) hsm dd ?_
            have q := (rel.val ks).isSome_eq
            rw [Option.isSome_map] at q
            rw [← q, valV_hasT ks h2]
            exact ⟨.bl _, H, I.tok _, rfl, rout_here ho (.bl _)⟩
          · cases q
        · cases q
    · split at q
      · cases q
        exact op_in_str pins s σ H x y v u Q I rx ry ⟨_, _, hd.str, he.str, rout_here ho (.bl _)⟩
      · cases q
    · cases q
theorem o_ni {k : Nat} (hr : L2H.RoomH k X.A) : OpR X (compareOp .NotIn) (rD X.K niD) := by
  intro pins s σ H x y v u Q I rx ry ⟨Z, d, e, r, hz, hd, he, hf, ho⟩
  unfold niD at hf
  cases q : inB d e with
  | none => rw [q] at hf; cases hf
  | some b =>
    rw [q] at hf
    cases hf
    unfold inB at q
    split at q
    · split at q
      · rename_i h
        cases q
        obtain ⟨h1, h2, h3⟩ := inOk_of h
        obtain ⟨as, r1⟩ := Inv.rt I hd rx
        obtain ⟨bs, r2⟩ := Inv.rt I he ry
        exact PySem.SeqAt.notIn_list_data r2 r1 h2 h1 (by have := room_eq hr (show 60 ≤ 60 by decide); omega) (rout_bl (I := I) ho)
      · cases q
    · split at q
      · rename_i h
        cases q
        obtain ⟨h1, h2, h3⟩ := inOk_of h
        obtain ⟨as, r1⟩ := Inv.rt I hd rx
        obtain ⟨bs, r2⟩ := Inv.rt I he ry
        exact PySem.SeqAt.notIn_tuple_data r2 r1 h2 h1 (by have := room_eq hr (show 60 ≤ 60 by decide); omega) (rout_bl (I := I) ho)
      · cases q
    · split at q
      · rename_i kk hk
        split at q
        · rename_i kd
          cases q
          obtain ⟨a, rfl, h1⟩ := he.dic
          cases ry
          have e1 := keyD_v hd hk
          subst e1
          obtain ⟨hsm, kvs, vs, h2, rel, dd⟩ := dkT_k I h1 kd
          refine wpAny_notIn_of (kV_is rx) hsm dd.mapOf ?_
          rw [← (rel.val kk).isSome_eq, valV_has kk h2]
          exact ⟨.bl _, H, I.tok _, rfl, rout_here ho (.bl _)⟩
        · cases q
      · split at q
        · rename_i ks hk
          split at q
          · rename_i kd
            cases q
            obtain ⟨a, rfl, h1⟩ := he.dic
            cases ry
            obtain ⟨b, rfl, h3⟩ := tkD_v hd hk
            cases rx
            obtain ⟨hsm, kvs, xs, h2, rel, dd⟩ := dkT_t I h1 kd
            refine wpAny_notIn_heap (tupleKind_room_in1 (room_eq hr (show 1 ≤ 60 by decide))) (key_ofS I h3) hsm dd ?_
            have q := (rel.val ks).isSome_eq
            rw [Option.isSome_map] at q
            rw [← q, valV_hasT ks h2]
            exact ⟨.bl _, H, I.tok _, rfl, rout_here ho (.bl _)⟩
          · cases q
        · cases q
    · split at q
      · cases q
        exact op_notin_str pins s σ H x y v u Q I rx ry ⟨_, _, hd.str, he.str, rout_here ho (.bl _)⟩
      · cases q
    · cases q
/-! ## subscripts, slices -/
def atD {α : Type} (xs : List α) (i : Int) : Option α := (ixN xs.length i).bind fun j => xs[j]?
def ixD : PyData → PyData → Option PyData
  | .list xs, .int i => atD xs i
  | .tuple xs, .int i => atD xs i
  | .str z, .int i => if z.length ≤ 1000000 then (atD z.cps.toList i).map fun c => .str ⟨#[c]⟩ else none
  | .dict es, k => match keyD k with
    | some k => dLook es k
    | none => match tkD k with
      | some ks => dLookT es ks
      | none => none
  | _, _ => none
theorem atI_rp {Z : Addr → Prop} {vs : List V} {ds : List PyData} {i : Int} {d : PyData} (h : RpA X.K H Z vs ds) (e : atD ds i = some d) : ∃ v, atI vs i = some v ∧ Rp X.K H Z v d := by
  unfold atD at e
  rw [← h.len] at e
  unfold atI
  cases q : ixN vs.length i with
  | none => rw [q] at e; cases e
  | some j =>
    rw [q] at e
    exact h.get (i := j) e
theorem o_ix {k : Nat} (hr : L2H.RoomH k X.A) : IxR X (rD X.K ixD) := by
  intro val sli pins s σ H x y v u Q I rx ry ⟨Z, d, e, r, hz, hd, he, hf, ho⟩ hs
  unfold ixD at hf
  split at hf
  · obtain ⟨a, vs, rfl, h1, h2⟩ := hd.lst
    obtain ⟨w, hw, rw'⟩ := atI_rp h2 hf
    exact ix_list val sli pins s σ H _ y v u Q I rx ry ⟨a, vs, _, w, rfl, he.int, h1.sq, hw, rout_here ho rw'⟩ hs
  · obtain ⟨a, vs, rfl, h1, h2⟩ := hd.tup
    obtain ⟨w, hw, rw'⟩ := atI_rp h2 hf
    exact ix_tup val sli pins s σ H _ y v u Q I rx ry ⟨a, vs, _, w, rfl, he.int, h1, hw, rout_here ho rw'⟩ hs
  · split at hf
    · rename_i z i hl
      cases q : atD z.cps.toList i with
      | none => rw [q] at hf; cases hf
      | some c =>
        rw [q] at hf
        cases hf
        exact ix_str val sli pins s σ H x y v u Q I rx ry ⟨_, _, c, hd.str, he.int, Nat.le_trans hl line_lim, q, rout_here ho (.str _)⟩ hs
    · cases hf
  · split at hf
    · rename_i kk hk
      obtain ⟨a, rfl, h1⟩ := hd.dic
      cases rx
      have e1 := keyD_v he hk
      subst e1
      rcases h1 with ⟨ks, h1, h2⟩ | ⟨ks, h1, h2⟩
      · rcases dLook_rp kk h2 with ⟨w, d', e1, e2, rw'⟩ | ⟨e1, e2⟩
        · rw [e2] at hf
          cases hf
          have g : DGet H a (kV kk) (some w) := by rw [← e1]; exact .inl ⟨_, _, h1, rfl, rfl⟩
          exact tail_any (dict_typeIs I g) PySem.F.slot_dict_getitem.lookup (d_getItem (room_eq hr (show 1 ≤ 60 by decide)) I g ry fun w' s1 I1 r1 => ⟨w, H, I1, r1, rout_here ho rw'⟩) hs
        · rw [e2] at hf
          cases hf
      · rw [dLook_T kk h2] at hf
        cases hf
    · split at hf
      · rename_i kk hk
        obtain ⟨a, rfl, h1⟩ := hd.dic
        cases rx
        obtain ⟨b, rfl, h3⟩ := tkD_v he hk
        cases ry
        rcases h1 with ⟨ks, h1, h2⟩ | ⟨ks, h1, h2⟩
        · rw [dLookT_K kk h2] at hf
          cases hf
        · rcases dLookT_rp kk h2 with ⟨w, d', e1, e2, rw'⟩ | ⟨e1, e2⟩
          · rw [e2] at hf
            cases hf
            obtain ⟨_, _, xs, rel, dd⟩ := dt_rd I.hok h1
            obtain ⟨w', hw, rw2⟩ := RelO.some_of (v := w) (o := (atKey xs kk).map (·.2)) (by rw [← e1]; exact rel.val kk)
            obtain ⟨p, hp, hp2⟩ := Option.map_eq_some_iff.mp hw
            refine tail_any (dd.typeIs) PySem.F.slot_dict_getitem.lookup (wpAny_getItem_heap (tupleKind_room_in1 (room_eq hr (show 1 ≤ 60 by decide))) (key_ofS I h3) dd hp ?_) hs
            rw [hp2]
            exact ⟨w, H, I.tok _, rw2, rout_here ho rw'⟩
          · rw [e2] at hf
            cases hf
      · cases hf
  · cases hf
theorem de_ix {k : Nat} (hr : L2H.RoomH k X.A) {a b : Expr} {ca cb : En → Sto → Rs Wv} {pos : Pos} (ha : DE X a ca) (hb : DE X b cb) (hs : PlainIx b) : DE X (.Subscript a b pos) (eOp2 ixD ca cb) :=
  ⟨fun W tk => PE.imp (pe_ix (o_ix hr) (ha.pe W tk) (hb.pe W tk) hs) fun σ H Q => te_two ixD⟩
/-- a part of a slice -/
structure DO (X : Cx) (e : Option Expr) (c : En → Sto → Rs (Option Int)) : Prop where
  po : ∀ W, Takes X W → PO X e fun σ H Q => ∃ m env st, Sim X.K H m st ∧ EnvR X.K H m st.length env σ ∧ (c env st).post (fun i st' => ∀ H' m', Fol m st.length H m' st'.length H' → Sim X.K H' m' st' → Q i H') (okX X W m st.length H σ)
def pNo : En → Sto → Rs (Option Int) := fun _ st => .ok none st
def pSome (c : En → Sto → Rs Wv) : En → Sto → Rs (Option Int) := fun env st => (c env st).bind fun w st1 => match w with
  | .d (.int i) => .ok (some i) st1
  | _ => .no
theorem PO.imp {e : Option Expr} {t t' : TO} (h : PO X e t) (q : ∀ σ H Q, t' σ H Q → t σ H Q) : PO X e t' := ⟨fun pins s σ H Q I x => h.run pins s σ H Q I (q σ H Q x)⟩
theorem do_no : DO X none pNo := ⟨fun W tk => PO.imp po_none fun σ H Q ⟨m, env, st, S, R, hp⟩ => hp H m .refl S⟩
theorem do_some {e : Expr} {c : En → Sto → Rs Wv} (h : DE X e c) : DO X (some e) (pSome c) := by
  refine ⟨fun W tk => PO.imp (po_some (h.pe W tk)) fun σ H Q ⟨m, env, st, S, R, hp⟩ => ?_⟩
  unfold pSome at hp
  rw [Rs.post_bind] at hp
  refine ⟨m, env, st, S, R, Rs.post_mono hp (fun w st1 q v H1 m1 f1 S1 r1 => ?_) fun _ _ q => q⟩
  split at q
  · cases r1
    exact ⟨_, rfl, q H1 m1 f1 S1⟩
  · exact q.elim
def cutD {α : Type} (xs : List α) (lo hi : Option Int) : List α := (xs.drop (HT.sIx xs.length 0 lo)).take (HT.sIx xs.length xs.length hi - HT.sIx xs.length 0 lo)
def slD (lo hi : Option Int) : PyData → Option PyData
  | .list xs => some (.list (cutD xs lo hi))
  | .tuple xs => some (.tuple (cutD xs lo hi))
  | .str z => if z.length ≤ 1000000 then some (.str (cutS z lo hi)) else none
  | _ => none
theorem cut_whole {α : Type} {xs : List α} {lo hi : Option Int} (h : HT.sIx xs.length 0 lo = 0 ∧ HT.sIx xs.length xs.length hi = xs.length) : cutD xs lo hi = xs := by
  unfold cutD
  rw [h.1, h.2]
  simp
theorem RpA.cut {K : Frg} {H : Hp} {Z : Addr → Prop} {vs : List V} {ds : List PyData} (h : RpA K H Z vs ds) (lo hi : Option Int) : RpA K H Z (cutV vs lo hi) (cutD ds lo hi) := by
  unfold cutV cutD
  rw [h.len]
  exact (h.drop _).take _
/-- a slice of a list, whoever holds it -/
def rSlice (K : Frg) : V → Option Int → Option Int → Hp → VK → Prop := fun x lo hi H Q => ∃ Z d r, (∀ a, H a = none → Z a) ∧ RT K H Z x d ∧ slD lo hi d = some r ∧ rOut K H Z r Q
theorem o_slice : SlR X (rSlice X.K) := by
  intro pins s σ H x v vl vu lo hi sl Q I rx hs pl pu ⟨Z, d, r, hz, hd, hf, ho⟩
  unfold slD at hf
  split at hf
  · cases hf
    obtain ⟨a, vs, rfl, h1, h2⟩ := hd.lst
    exact sl_list pins s σ H _ v vl vu lo hi sl Q I rx hs pl pu ⟨a, vs, rfl, h1.sq, rout_lst hz ho (h2.cut lo hi)⟩
  · cases hf
    obtain ⟨a, vs, rfl, h1, h2⟩ := hd.tupT
    have whole : HT.sIx vs.length 0 lo = 0 ∧ HT.sIx vs.length vs.length hi = vs.length → Q (.ref a) H := fun e => by
      rw [cut_whole (by rw [← h2.len]; exact e)] at ho
      exact rout_here ho (.tup h1 h2)
    cases hF : Wtp.F with
    | false => exact sl_tupA pins s σ H _ v vl vu lo hi sl Q I rx hs pl pu ⟨a, vs, rfl, h1.sq, whole, fun _ => rout_tup hF ho (h2.cut lo hi)⟩
    | true => exact sl_tupN pins s σ H _ v vl vu lo hi sl Q I rx hs pl pu ⟨a, vs, rfl, h1.sq, whole, fun _ => rout_new hF ho (h2.cut lo hi)⟩
  · split at hf
    · rename_i h
      cases hf
      exact sl_str pins s σ H x v vl vu lo hi sl Q I rx hs pl pu ⟨_, hd.str, Nat.le_trans h line_lim, rout_here ho (.str _)⟩
    · cases hf
  · cases hf
def eSlice (c : En → Sto → Rs Wv) (l h : En → Sto → Rs (Option Int)) : En → Sto → Rs Wv := fun env st => (c env st).bind fun w st1 => (l env st1).bind fun lo st2 => (h env st2).bind fun hi st3 => look1 w st3 fun d => ret1 (slD lo hi d) st3
theorem de_slice {a : Expr} {lo hi : Option Expr} {c : En → Sto → Rs Wv} {l h : En → Sto → Rs (Option Int)} {p2 pos : Pos} (ha : DE X a c) (hl : DO X lo l) (hh : DO X hi h) : DE X (.Subscript a (.Slice lo hi none p2) pos) (eSlice c l h) := by
  refine ⟨fun W tk => PE.imp (pe_slice o_slice (ha.pe W tk) (hl.po W tk) (hh.po W tk)) fun σ H Q ⟨m, env, st, S, R, hp⟩ => ?_⟩
  unfold eSlice at hp
  rw [Rs.post_bind] at hp
  refine ⟨m, env, st, S, R, Rs.post_mono hp (fun w st1 q v H1 m1 f1 S1 r1 => ?_) fun _ _ q => q⟩
  rw [Rs.post_bind] at q
  refine ⟨m1, env, st1, S1, R.mv f1, Rs.post_mono q (fun i st2 q H2 m2 f2 S2 => ?_) fun _ _ q => okX.tr f1 q⟩
  rw [Rs.post_bind] at q
  refine ⟨m2, env, st2, S2, (R.mv f1).mv f2, Rs.post_mono q (fun j st3 q H3 m3 f3 S3 => ?_) fun _ _ q => okX.tr (f1.trans f2) q⟩
  obtain ⟨d, e1, q⟩ := look1_post q
  obtain ⟨r, e2, q⟩ := ret1_post q
  exact ⟨_, d, r, fun a => S3.fresh, look_rt S3 ((r1.mv f2).mv f3) e1, e2, okE.out ((f1.trans f2).trans f3) S3 q⟩
/-! ## built-ins by their names -/
theorem de_callB {a : Expr} {as : List Expr} {cs : En → Sto → Rs (List Wv)} {x : Str} {id : String} {f : List PyData → Option PyData} {M : Md} {B : Tb} {k : Nat} {p pos : Pos} (c : Cxt M X B k) (hc : CallR X (.builtin id) (rN X.K f)) (j : Nat) (hg : B.gs[j]? = some x) (hm : M.mg x = none)
    (hv : bootBuiltins x = some (.builtin id)) (ha : DA X (a :: as) cs) (hn : x ≠ "__name__" := by decide) (hdb : (x == ("__debug__" : Str)) = false := by decide)
    (he : starEach (a :: as) X.env = (false, eval a X.env) :: starEach as X.env := by rfl) (hpl : (backTo pos (starEach as X.env)).any (·.1) = false := by rfl) : DE X (.Call (.Name x p) (a :: as) [] pos) (eOpN f cs) :=
  ⟨fun W tk => PE.imp (pe_callB hc (c.gl j x hg) (by rw [c.mg]; exact hm) hv (ha.pa W tk) hn hdb he hpl) fun σ H Q => te_all f⟩
theorem de_callT {a : Expr} {as : List Expr} {cs : En → Sto → Rs (List Wv)} {x : Str} {T : String} {f : List PyData → Option PyData} {M : Md} {B : Tb} {k : Nat} {p pos : Pos} (c : Cxt M X B k) (hc : CallR X (.type T) (rN X.K f)) (j : Nat) (hg : B.gs[j]? = some x) (hm : M.mg x = none)
    (hv : bootBuiltins x = some (.type T)) (ha : DA X (a :: as) cs) (hn : x ≠ "__name__" := by decide) (hdb : (x == ("__debug__" : Str)) = false := by decide)
    (he : starEach (a :: as) X.env = (false, eval a X.env) :: starEach as X.env := by rfl) (hpl : (backTo pos (starEach as X.env)).any (·.1) = false := by rfl) : DE X (.Call (.Name x p) (a :: as) [] pos) (eOpN f cs) :=
  ⟨fun W tk => PE.imp (pe_callTy hc (c.gl j x hg) (by rw [c.mg]; exact hm) hv (ha.pa W tk) hn hdb he hpl) fun σ H Q => te_all f⟩
theorem rts1 {K : Frg} {H : Hp} {Z : Addr → Prop} {vs : List V} {d : PyData} (h : RTs K H Z vs [d]) : ∃ v, vs = [v] ∧ RT K H Z v d := by
  cases h with | cons h1 h2 => cases h2; exact ⟨_, rfl, h1⟩
theorem rts2 {K : Frg} {H : Hp} {Z : Addr → Prop} {vs : List V} {d e : PyData} (h : RTs K H Z vs [d, e]) : ∃ v w, vs = [v, w] ∧ RT K H Z v d ∧ RT K H Z w e := by
  cases h with | cons h1 h2 => cases h2 with | cons h3 h4 => cases h4; exact ⟨_, _, rfl, h1, h3⟩
theorem Inv.rt1 {K : Frg} {Z : Addr → Prop} (I : Inv X pins σ H s) {v : V} {us : List Value} {d : PyData} (h : RT X.K H Z v d) (r : Vals [v] us) : ∃ u as, us = [u] ∧ RelV v u ∧ Reads s.heap u d as := by
  obtain ⟨u, rfl, r1⟩ := Vals.one r
  obtain ⟨as, q⟩ := Inv.rt I h r1
  exact ⟨u, as, rfl, r1, q⟩
theorem RpT.len {K : Frg} {H : Hp} {Z : Addr → Prop} : ∀ {ks : List (List Key × V)} {es : List (PyData × PyData)}, RpT K H Z ks es → ks.length = es.length
  | [], [], _ => rfl
  | _ :: _, _ :: _, .cons _ _ h => by simp [RpT.len h]
def lenD : PyData → Option PyData
  | .list xs => some (.int xs.length)
  | .tuple xs => some (.int xs.length)
  | .dict es => some (.int es.length)
  | .str z => if z.length ≤ 1000000 then some (.int z.length) else none
  | _ => none
def lenF : List PyData → Option PyData
  | [d] => lenD d
  | _ => none
theorem RpK.len {K : Frg} {H : Hp} {Z : Addr → Prop} : ∀ {ks : List (Key × V)} {es : List (PyData × PyData)}, RpK K H Z ks es → ks.length = es.length
  | [], [], _ => rfl
  | _ :: _, _ :: _, .cons _ _ h => by simp [RpK.len h]
theorem c_len : CallR X (.builtin "len") (rN X.K lenF) := by
  intro pins s σ H xs us Q I r ⟨Z, ds, e, hz, hd, hf, ho⟩
  unfold lenF at hf
  split at hf
  · obtain ⟨v, rfl, h⟩ := rts1 hd
    unfold lenD at hf
    split at hf
    · cases hf
      obtain ⟨a, vs, rfl, h1, h2⟩ := h.lst
      exact call_len_seq pins s σ H _ us Q I r ⟨a, vs, rfl, .inl h1.sq, by rw [h2.len]; exact rout_here ho (.int _)⟩
    · cases hf
      obtain ⟨a, vs, rfl, h1, h2⟩ := h.tup
      exact call_len_seq pins s σ H _ us Q I r ⟨a, vs, rfl, .inr h1, by rw [h2.len]; exact rout_here ho (.int _)⟩
    · cases hf
      obtain ⟨a, rfl, h1⟩ := h.dic
      obtain ⟨u, rfl, r1⟩ := Vals.one r
      cases r1
      rcases h1 with ⟨ks, h1, h2⟩ | ⟨ks, h1, h2⟩
      · exact d_len I h1 fun t s1 I1 => ⟨.int ks.length, H, I1, ⟨t, rfl⟩, by rw [h2.len]; exact rout_here ho (.int _)⟩
      · obtain ⟨z, hsm, xs, rel, dd⟩ := dt_rd I.hok h1
        refine call_len_dictH hsm dd (by rw [← Paired.length rel]; rw [sizeLine_eq] at z; omega) ?_
        exact ⟨.int xs.length, H, I.tok _, ⟨_, rfl⟩, by rw [← Paired.length rel, h2.len]; exact rout_here ho (.int _)⟩
    · split at hf
      · rename_i hl
        cases hf
        have e1 := h.str
        subst e1
        exact call_len_str pins s σ H _ us Q I r ⟨_, rfl, Nat.le_trans hl line_lim, rout_here ho (.int _)⟩
      · cases hf
    · cases hf
  · cases hf
end
end
section
variable [Wtp] [Tbl]
section
variable {X : Cx} {pins : List (Addr × Obj)} {σ : L2.St} {H : Hp} {s : Shared}
/-- what a sequence holds -/
def seqOf : PyData → Option (List PyData)
  | .list xs => some xs
  | .tuple xs => some xs
  | _ => none
def intsOf : List PyData → Option (List Int)
  | [] => some []
  | .int i :: r => (intsOf r).map (i :: ·)
  | _ :: _ => none
def boolsOf : List PyData → Option (List Bool)
  | [] => some []
  | .bool b :: r => (boolsOf r).map (b :: ·)
  | _ :: _ => none
theorem intsOf_map (ns : List Int) : intsOf (ns.map .int) = some ns := by
  induction ns with
  | nil => rfl
  | cons n r ih => rw [List.map_cons, intsOf, ih]; rfl
theorem boolsOf_map (ns : List Bool) : boolsOf (ns.map .bool) = some ns := by
  induction ns with
  | nil => rfl
  | cons n r ih => rw [List.map_cons, boolsOf, ih]; rfl
theorem boolsOf_eq : ∀ {xs : List PyData} {ns : List Bool}, boolsOf xs = some ns → xs = ns.map .bool
  | [], ns, h => by cases h; rfl
  | .bool i :: r, ns, h => by
    rw [boolsOf] at h
    cases q : boolsOf r with
    | none => rw [q] at h; cases h
    | some l => rw [q] at h; cases h; rw [List.map_cons, ← boolsOf_eq q]
  | .none :: r, ns, h => by cases h
  | .int _ :: r, ns, h => by cases h
  | .str _ :: r, ns, h => by cases h
  | .list _ :: r, ns, h => by cases h
  | .tuple _ :: r, ns, h => by cases h
  | .dict _ :: r, ns, h => by cases h
theorem RpA.bools {K : Frg} {Z : Addr → Prop} : ∀ {vs : List V} {ns : List Bool}, RpA K H Z vs (ns.map .bool) → vs = ns.map V.bl
  | [], [], _ => rfl
  | _ :: _, _ :: _, .cons h1 h2 => by cases h1; rw [List.map_cons, ← RpA.bools h2]
/-! ### abs, sum, any, all -/
def sumF : List PyData → Option PyData
  | [d] => match seqOf d with
    | some xs => (intsOf xs).map fun ns => .int ns.sum
    | none => none
  | _ => none
def allF : List PyData → Option PyData
  | [.list xs] => (boolsOf xs).map fun bs => .bool (bs.all id)
  | _ => none
theorem c_all (hc : X.calm = true) : CallR X (.builtin "all") (rN X.K allF) := by
  intro pins s σ H xs us Q I r ⟨Z, ds, e, hz, hd, hf, ho⟩
  unfold allF at hf
  split at hf
  · rename_i xs
    obtain ⟨v, rfl, h⟩ := rts1 hd
    cases q2 : boolsOf xs with
    | none => rw [q2] at hf; cases hf
    | some ns =>
      rw [q2] at hf
      cases hf
      have e1 := boolsOf_eq q2
      subst e1
      obtain ⟨a, vs, rfl, h1, h2⟩ := h.lst
      rw [h2.bools] at h1
      exact cr_all hc pins s σ H _ us Q I r ⟨a, ns, rfl, h1.sq, rout_here ho (.bl _)⟩
  · cases hf
/-! ### tuple, list, int -/
def tupF : List PyData → Option PyData
  | [d] => (seqOf d).map .tuple
  | _ => none
def lstF : List PyData → Option PyData
  | [d] => (seqOf d).map .list
  | _ => none
def intF : List PyData → Option PyData
  | [.int i] => some (.int i)
  | [.bool b] => some (.int (if b then 1 else 0))
  | _ => none
theorem c_tup : CallR X (.type "tuple") (rN X.K tupF) := by
  intro pins s σ H xs us Q I r ⟨Z, ds, e, hz, hd, hf, ho⟩
  unfold tupF at hf
  split at hf
  · obtain ⟨v, rfl, h⟩ := rts1 hd
    unfold seqOf at hf
    split at hf
    · cases hf
      obtain ⟨a, vs, rfl, h1, h2⟩ := h.lst
      cases hF : Wtp.F with
      | false => exact call_tuple_of pins s σ H _ us Q I r ⟨a, vs, rfl, .inl ⟨h1.sq, rout_tup hF ho h2⟩⟩
      | true => exact call_tupleN pins s σ H _ us Q I r ⟨a, vs, rfl, .inl ⟨h1.sq, rout_new hF ho h2⟩⟩
    · cases hf
      obtain ⟨a, vs, rfl, h1, h2⟩ := h.tupT
      exact call_tuple_of pins s σ H _ us Q I r ⟨a, vs, rfl, .inr ⟨h1.sq, rout_here ho (.tup h1 h2)⟩⟩
    · cases hf
  · cases hf
theorem c_lst : CallR X (.type "list") (rN X.K lstF) := by
  intro pins s σ H xs us Q I r ⟨Z, ds, e, hz, hd, hf, ho⟩
  unfold lstF at hf
  split at hf
  · obtain ⟨v, rfl, h⟩ := rts1 hd
    unfold seqOf at hf
    split at hf
    · cases hf
      obtain ⟨a, vs, rfl, h1, h2⟩ := h.lst
      exact call_list_of pins s σ H _ us Q I r ⟨a, vs, rfl, .inl h1.sq, rout_lst hz ho h2⟩
    · cases hf
      obtain ⟨a, vs, rfl, h1, h2⟩ := h.tup
      exact call_list_of pins s σ H _ us Q I r ⟨a, vs, rfl, .inr h1, rout_lst hz ho h2⟩
    · cases hf
  · cases hf
theorem c_int : CallR X (.type "int") (rN X.K intF) := by
  intro pins s σ H xs us Q I r ⟨Z, ds, e, hz, hd, hf, ho⟩
  unfold intF at hf
  split at hf
  · cases hf
    obtain ⟨v, rfl, h⟩ := rts1 hd
    rw [h.int] at r
    exact call_int1 pins s σ H _ us Q I r (.inl ⟨_, rfl, rout_here ho (.int _)⟩)
  · cases hf
    obtain ⟨v, rfl, h⟩ := rts1 hd
    rw [h.bl] at r
    exact call_int1 pins s σ H _ us Q I r (.inr ⟨_, rfl, rout_here ho (.int _)⟩)
  · cases hf
/-! ### isinstance of a built-in class -/
def isaD (T : String) (d : PyData) : Option PyData := match T with
  | "int" => some (.bool d.isInt)
  | "bool" => some (.bool d.isBool)
  | "str" => some (.bool d.isStr)
  | "tuple" => some (.bool d.isTuple)
  | "list" => some (.bool d.isList)
  | "dict" => some (.bool d.isDict)
  | _ => none
def rIsa (K : Frg) (T : String) : List V → Hp → VK → Prop := fun vs H Q => ∃ Z v d r, vs = [v, .ty T] ∧ RT K H Z v d ∧ isaD T d = some r ∧ rOut K H Z r Q
theorem c_isa {T : String} : CallR X (.builtin "isinstance") (rIsa X.K T) := by
  intro pins s σ H xs us Q I r h
  obtain ⟨Z, v, d, e, rfl, hd, hf, ho⟩ := h
  obtain ⟨u, t, rfl, r1, r2⟩ := Vals.two r
  cases r2
  obtain ⟨as, q⟩ := Inv.rt I hd r1
  have fin : ∀ (b : Bool), e = .bool b → ∀ tk, EP X pins σ Q (.bool b) { s with toks := tk } := fun b eb tk => ⟨.bl b, H, I.tok tk, rfl, rout_here ho (by rw [eb]; exact .bl b)⟩
  unfold isaD at hf
  split at hf
  · cases hf; exact PySem.W.isinstance_int_data q fun tk _ => fin _ rfl tk
  · cases hf; exact PySem.W.isinstance_bool_data q fun tk _ => fin _ rfl tk
  · cases hf; exact PySem.W.isinstance_str_data q fun tk _ => fin _ rfl tk
  · cases hf; exact PySem.W.isinstance_tuple_data q fun tk _ => fin _ rfl tk
  · cases hf; exact PySem.W.isinstance_list_data q fun tk _ => fin _ rfl tk
  · cases hf; exact PySem.W.isinstance_dict_data q fun tk _ => fin _ rfl tk
  · cases hf
theorem de_isa {M : Md} {B : Tb} {k : Nat} {a : Expr} {ca : En → Sto → Rs Wv} {x : Str} {T : String} {p p2 pos : Pos} (c : Cxt M X B k) (j j2 : Nat) (hg : B.gs[j]? = some ("isinstance" : Str)) (hm : M.mg "isinstance" = none) (hg2 : B.gs[j2]? = some x) (hm2 : M.mg x = none)
    (hv : bootBuiltins x = some (.type T)) (ha : DE X a ca) (hn : x ≠ "__name__" := by decide) (hdb : (x == ("__debug__" : Str)) = false := by decide)
    (he : starEach [a, .Name x p2] X.env = (false, eval a X.env) :: starEach [.Name x p2] X.env := by rfl) : DE X (.Call (.Name "isinstance" p) [a, .Name x p2] [] pos) (eOp1 (isaD T) ca) := by
  refine ⟨fun W tk => PE.imp (pe_callB (c_isa (T := T)) (c.gl j _ hg) (by rw [c.mg]; exact hm) (by decide +kernel) (pa_cons (ha.pe W tk) (pa_cons (pe_bltn (v := .ty T) (c.gl j2 _ hg2) (by rw [c.mg]; exact hm2) hv rfl hn hdb) pa_nil) he) (by decide) (by decide) he) fun σ H Q h => ?_⟩
  obtain ⟨m, env, st, S, R, hp⟩ := h
  unfold eOp1 at hp
  rw [Rs.post_bind] at hp
  refine ⟨m, env, st, S, R, Rs.post_mono hp (fun w st1 q v H1 m1 f1 S1 r1 => ?_) fun _ _ q => q⟩
  obtain ⟨d, e1, q⟩ := look1_post q
  obtain ⟨r, e3, q⟩ := ret1_post q
  exact ⟨_, v, d, r, rfl, look_rt S1 r1 e1, e3, okE.out f1 S1 q⟩
/-! ### repr -/
def reprOk (d : PyData) : Bool := d.showable && (decide (d.depth ≤ 40) && decide (d.shown.length ≤ 16000000))
def reprF : List PyData → Option PyData
  | [.dict []] => some (.str "{}")
  | [d] => if reprOk d then some (.str d.shown) else none
  | _ => none
theorem readsAll_none {h : Heap} {l : List Value} {as : List Addr} (r : ReadsAll h l [] as) : as = [] := by cases r; rfl
theorem c_repr {k : Nat} (hr : L2H.RoomH k X.A) (hg : X.A.guards = some []) (sm : SysM X.base) : CallR X (.builtin "repr") (rN X.K reprF) := by
  intro pins s σ H xs us Q I r ⟨Z, ds, e, hz, hd, hf, ho⟩
  have line : 16000000 ≤ sizeLine := by rw [sizeLine_eq]; decide
  have hu := room_eq hr (show 60 ≤ 60 by decide)
  unfold reprF at hf
  split at hf
  · cases hf
    obtain ⟨v, rfl, h⟩ := rts1 hd
    obtain ⟨a, rfl, h1⟩ := h.dic
    obtain ⟨u, as, rfl, r1, q⟩ := Inv.rt1 (K := X.K) I h r
    cases r1
    obtain ⟨hs, _⟩ := dkT_k I h1 rfl
    have hns : sysModules ∉ as := by
      cases q with
      | dict h1 h2 h3 h4 h5 =>
        rw [readsAll_none h4, readsAll_none h5]
        intro z
        simp at z
        rw [z] at hs
        simp at hs
    exact repr_of_reads' q (by decide +kernel) (fun _ => hns) hg (by show X.A.units + (_ + 1) < cLine; simp only [PyData.depth, PyData.depthKv]; omega) (fun _ _ e => e) (fun h' u tk hk => ⟨.str "{}", H, I.kept (t' := tk) hk, ⟨u, rfl⟩, rout_here ho (.str _)⟩) (by show ("{}" : Str).length ≤ sizeLine; exact Nat.le_trans (by decide +kernel) line)
  · split at hf
    · rename_i d _ hk
      cases hf
      unfold reprOk at hk
      simp only [Bool.and_eq_true, decide_eq_true_eq] at hk
      obtain ⟨k1, k2, k3⟩ := hk
      obtain ⟨v, rfl, h⟩ := rts1 hd
      obtain ⟨u, rfl, r1⟩ := Vals.one r
      obtain ⟨as, q, off⟩ := Inv.rtM I h r1
      have big : d.shown.length ≤ sizeLine := Nat.le_trans k3 line
      have hnd : d.hasDict = true → sysModules ∉ as := fun _ => off (sm.up I.bk)
      have seq : ∀ a, u = .ref a → wpAny (model X.prog X.w) X.A (call (.builtin "repr") [u]) (EP X pins σ Q) X.xe s := fun a ea => by
        subst ea
        exact repr_of_reads' q k1 hnd hg (by omega) (fun _ _ e => e) (fun h' u tk hk => ⟨.str d.shown, H, I.kept (t' := tk) hk, ⟨u, rfl⟩, rout_here ho (.str _)⟩) big
      cases d with
      | none => rw [h.non] at r1; cases r1; exact PySem.P.repr_of_none ⟨.str "None", H, I.tok _, ⟨_, rfl⟩, rout_here ho (.str _)⟩
      | bool b => rw [h.bl] at r1; cases r1; exact PySem.P.repr_of_bool ⟨.str _, H, I.tok _, ⟨_, rfl⟩, rout_here ho (by cases b <;> exact .str _)⟩
      | int i =>
        rw [h.int] at r1
        obtain ⟨t, rfl⟩ := r1
        exact PySem.P.repr_of_int (of_decide_eq_true k1) ⟨.str _, H, I.tok _, ⟨_, rfl⟩, rout_here ho (.str _)⟩
      | str x =>
        rw [h.str] at r1
        obtain ⟨t, rfl⟩ := r1
        exact PySem.P.repr_of_str ⟨.str _, H, I.tok _, ⟨_, rfl⟩, rout_here ho (.str _)⟩ big
      | list xs => obtain ⟨a, vs, rfl, _⟩ := h.lst; exact seq a r1
      | tuple xs => obtain ⟨a, vs, rfl, _⟩ := h.tup; exact seq a r1
      | dict xs => obtain ⟨a, rfl, _⟩ := h.dic; exact seq a r1
    · cases hf
  · cases hf
end
end
section
variable [Wtp] [Tbl]
/-! ## statements -/
inductive Rt where
  | w (x : Wv)
  | f (x : Wv)
  | ft (xs : List Wv)
inductive SR where
  | nx (env : En) (st : Sto)
  | rt (p : Rt) (st : Sto)
  | ex (e : Xc) (st : Sto)
  | no
namespace SR
def post (x : SR) (N : En → Sto → Prop) (R : Rt → Sto → Prop) (W : Xc → Sto → Prop) : Prop := match x with
  | .nx env st => N env st
  | .rt p st => R p st
  | .ex e st => W e st
  | .no => False
@[simp] theorem post_nx (env : En) (st : Sto) (N : En → Sto → Prop) (R : Rt → Sto → Prop) (W : Xc → Sto → Prop) : (SR.nx env st).post N R W = N env st := rfl
@[simp] theorem post_rt (p : Rt) (st : Sto) (N : En → Sto → Prop) (R : Rt → Sto → Prop) (W : Xc → Sto → Prop) : (SR.rt p st).post N R W = R p st := rfl
@[simp] theorem post_ex (p : Xc) (st : Sto) (N : En → Sto → Prop) (R : Rt → Sto → Prop) (W : Xc → Sto → Prop) : (SR.ex p st).post N R W = W p st := rfl
@[simp] theorem post_no (N : En → Sto → Prop) (R : Rt → Sto → Prop) (W : Xc → Sto → Prop) : SR.no.post N R W = False := rfl
theorem post_mono {x : SR} {N N' : En → Sto → Prop} {R R' : Rt → Sto → Prop} {W W' : Xc → Sto → Prop} (h : x.post N R W) (h1 : ∀ a st, N a st → N' a st) (h2 : ∀ a st, R a st → R' a st) (h3 : ∀ a st, W a st → W' a st) : x.post N' R' W' := by
  cases x with
  | nx a st => exact h1 a st h
  | rt a st => exact h2 a st h
  | ex a st => exact h3 a st h
  | no => exact h
/-- what follows -/
def seq (x : SR) (f : En → Sto → SR) : SR := match x with
  | .nx env st => f env st
  | .rt p st => .rt p st
  | .ex e st => .ex e st
  | .no => .no
@[simp] theorem seq_nx (env : En) (st : Sto) (f : En → Sto → SR) : (SR.nx env st).seq f = f env st := rfl
@[simp] theorem seq_rt (p : Rt) (st : Sto) (f : En → Sto → SR) : (SR.rt p st).seq f = .rt p st := rfl
@[simp] theorem seq_ex (p : Xc) (st : Sto) (f : En → Sto → SR) : (SR.ex p st).seq f = .ex p st := rfl
@[simp] theorem seq_no (f : En → Sto → SR) : SR.no.seq f = .no := rfl
theorem post_seq (x : SR) (f : En → Sto → SR) (N : En → Sto → Prop) (R : Rt → Sto → Prop) (W : Xc → Sto → Prop) : (x.seq f).post N R W = x.post (fun env st => (f env st).post N R W) R W := by cases x <;> rfl
end SR
/-- a value, then a statement's end -/
def Rs.sb {α : Type} (x : Rs α) (f : α → Sto → SR) : SR := match x with
  | .ok a st => f a st
  | .ex e st => .ex e st
  | .no => .no
@[simp] theorem Rs.sb_ok {α : Type} (a : α) (st : Sto) (f : α → Sto → SR) : (Rs.ok a st).sb f = f a st := rfl
@[simp] theorem Rs.sb_ex {α : Type} (e : Xc) (st : Sto) (f : α → Sto → SR) : (Rs.ex e st : Rs α).sb f = .ex e st := rfl
@[simp] theorem Rs.sb_no {α : Type} (f : α → Sto → SR) : (Rs.no : Rs α).sb f = .no := rfl
theorem Rs.post_sb {α : Type} (x : Rs α) (f : α → Sto → SR) (N : En → Sto → Prop) (R : Rt → Sto → Prop) (W : Xc → Sto → Prop) : (x.sb f).post N R W = x.post (fun a st => (f a st).post N R W) W := by cases x <;> rfl
def RtR (K : Frg) (H : Hp) (m : Mp) (n : Nat) (v : V) : Rt → Prop
  | .w x => RW K H m n v x
  | .f x => RW K H m n v x
  | .ft xs => ∃ a u vs, v = .ref a ∧ H a = some u ∧ TupO u vs ∧ RWs K H m n vs xs
def okN (X : Cx) (m : Mp) (n : Nat) (H : Hp) (D : Ends) : En → Sto → Prop := fun env st' => ∀ σ' H' m', Fol m n H m' st'.length H' → Sim X.K H' m' st' → EnvR X.K H' m' st'.length env σ' → D.nx σ' H'
def okR (X : Cx) (m : Mp) (n : Nat) (H : Hp) (D : Ends) : Rt → Sto → Prop := fun p st' => ∀ v H' m', Fol m n H m' st'.length H' → Sim X.K H' m' st' → RtR X.K H' m' st'.length v p → D.rt v H'
def okXs (X : Cx) (W : WX) (m : Mp) (n : Nat) (H : Hp) : Xc → Sto → Prop := fun e st' => ∀ c d σ' H' m', Fol m n H m' st'.length H' → Sim X.K H' m' st' → ExR X.K X.mg H' m' st'.length e c d → W c d σ' H'
def tS (X : Cx) (W : WX) (c : En → Sto → SR) : TS := fun D σ H => ∃ m env st, Sim X.K H m st ∧ EnvR X.K H m st.length env σ ∧ (c env st).post (okN X m st.length H D) (okR X m st.length H D) (okXs X W m st.length H)
structure DS (X : Cx) (e : Stmt) (c : En → Sto → SR) : Prop where
  ps : ∀ W, Takes X W → PS X e (tS X W c)
structure DB (X : Cx) (es : List Stmt) (c : En → Sto → SR) : Prop where
  pss : ∀ W, Takes X W → PSs X es (tS X W c)
def sNil : En → Sto → SR := fun env st => .nx env st
def sSeq (a b : En → Sto → SR) : En → Sto → SR := fun env st => (a env st).seq b
def sSet (i : Nat) (c : En → Sto → Rs Wv) : En → Sto → SR := fun env st => (c env st).sb fun w st1 => .nx (env.set i (some w)) st1
def sRet (c : En → Sto → Rs Wv) : En → Sto → SR := fun env st => (c env st).sb fun w st1 => .rt (.w w) st1
def sRetF (c : En → Sto → Rs Wv) : En → Sto → SR := fun env st => (c env st).sb fun w st1 => .rt (.f w) st1
def sRetT (c : En → Sto → Rs (List Wv)) : En → Sto → SR := fun env st => (c env st).sb fun ws st1 => if ws.length ≤ 1000 then .rt (.ft ws) st1 else .no
def sRetN : En → Sto → SR := fun env st => .rt (.w (.d .none)) st
def sExp (c : En → Sto → Rs Wv) : En → Sto → SR := fun env st => (c env st).sb fun _ st1 => .nx env st1
def sIf (t : En → Sto → Rs Bool) (a b : En → Sto → SR) : En → Sto → SR := fun env st => (t env st).sb fun x st1 => if x then a env st1 else b env st1
def sNo : En → Sto → SR := fun _ _ => .no
section
variable {M : Md} {X : Cx} {B : Tb} {k : Nat} {pins : List (Addr × Obj)} {σ : L2.St} {H : Hp} {s : Shared} {m : Mp} {env : En} {st : Sto} {W : WX} {D : Ends} {pos : Pos}
theorem PS.imp {e : Stmt} {t t' : TS} (h : PS X e t) (q : ∀ D σ H, t' D σ H → t D σ H) : PS X e t' := ⟨fun pins s σ H D I x => h.run pins s σ H D I (q D σ H x)⟩
theorem PSs.imp {e : List Stmt} {t t' : TS} (h : PSs X e t) (q : ∀ D σ H, t' D σ H → t D σ H) : PSs X e t' := ⟨fun pins s σ H D I x => h.run pins s σ H D I (q D σ H x)⟩
theorem okXs.x {n : Nat} {e : Xc} {st' : Sto} (h : okXs X W m n H e st') : okX X W m n H σ e st' := fun c d H' m' f S r => h c d σ H' m' f S r
theorem okXs.tr {m1 : Mp} {n n1 : Nat} {H1 : Hp} {e : Xc} {st' : Sto} (f : Fol m n H m1 n1 H1) (h : okXs X W m n H e st') : okXs X W m1 n1 H1 e st' := fun c d σ' H' m' f' S' r => h c d σ' H' m' (f.trans f') S' r
theorem okN.tr {m1 : Mp} {n n1 : Nat} {H1 : Hp} {e : En} {st' : Sto} (f : Fol m n H m1 n1 H1) (h : okN X m n H D e st') : okN X m1 n1 H1 D e st' := fun σ' H' m' f' S' r => h σ' H' m' (f.trans f') S' r
theorem okR.tr {m1 : Mp} {n n1 : Nat} {H1 : Hp} {e : Rt} {st' : Sto} (f : Fol m n H m1 n1 H1) (h : okR X m n H D e st') : okR X m1 n1 H1 D e st' := fun v H' m' f' S' r => h v H' m' (f.trans f') S' r
/-- a value, then the statement -/
theorem te_sb {c : En → Sto → Rs Wv} {f : En → Wv → Sto → SR} {Q : VK} (S : Sim X.K H m st) (R : EnvR X.K H m st.length env σ) (hp : ((c env st).sb (f env)).post (okN X m st.length H D) (okR X m st.length H D) (okXs X W m st.length H))
    (q : ∀ w st1 v H1 m1, Fol m st.length H m1 st1.length H1 → Sim X.K H1 m1 st1 → EnvR X.K H1 m1 st1.length env σ → RW X.K H1 m1 st1.length v w → (f env w st1).post (okN X m st.length H D) (okR X m st.length H D) (okXs X W m st.length H) → Q v H1) : tE X W c σ H Q := by
  rw [Rs.post_sb] at hp
  exact ⟨m, env, st, S, R, Rs.post_mono hp (fun w st1 h v H1 m1 f1 S1 r1 => q w st1 v H1 m1 f1 S1 (R.mv f1) r1 h) fun _ _ h => h.x⟩
theorem db_nil : DB X [] sNil := ⟨fun W tk => PSs.imp pss_nil fun D σ H ⟨m, env, st, S, R, hp⟩ => hp σ H m .refl S R⟩
theorem db_cons {e : Stmt} {es : List Stmt} {a b : En → Sto → SR} (h1 : DS X e a) (h2 : DB X es b) : DB X (e :: es) (sSeq a b) := by
  refine ⟨fun W tk => PSs.imp (pss_cons (h1.ps W tk) (h2.pss W tk)) fun D σ H ⟨m, env, st, S, R, hp⟩ => ?_⟩
  unfold sSeq at hp
  rw [SR.post_seq] at hp
  exact ⟨m, env, st, S, R, SR.post_mono hp (fun env1 st1 q σ1 H1 m1 f1 S1 R1 => ⟨m1, env1, st1, S1, R1, SR.post_mono q (fun _ _ q => okN.tr f1 q) (fun _ _ q => okR.tr f1 q) fun _ _ q => okXs.tr f1 q⟩) (fun _ _ q => q) fun _ _ q => q⟩
theorem db_one {e : Stmt} {a : En → Sto → SR} (h1 : DS X e a) : DB X [e] a := ⟨fun W tk => pss_one (h1.ps W tk)⟩
theorem ds_set (c : Cxt M X B k) (i : Nat) {x : Str} {e : Expr} {ce : En → Sto → Rs Wv} {pos' : Pos} (hi : B.N[i]? = some x) (hl : i ∈ B.ls) (he : DE X e ce) (hs : swapsWith e (some (.Name x pos')) pos.line X.env = pure false := by rfl) : DS X (.Assign [.Name x pos'] e pos) (sSet i ce) := by
  obtain ⟨l1, l2⟩ := c.loc i hl x hi
  refine ⟨fun W tk => PS.imp (ps_set (by rw [c.hN]; exact c.nd) (by rw [c.hN]; exact hi) l1 (he.pe W tk) hs l2) fun D σ H ⟨m, env, st, S, R, hp⟩ => ?_⟩
  exact te_sb (f := fun env w st1 => .nx (env.set i (some w)) st1) S R hp fun w st1 v H1 m1 f1 S1 R1 r1 q => q _ H1 m1 f1 S1 (R1.set i r1)
theorem ds_ret {e : Expr} {ce : En → Sto → Rs Wv} (he : DE X e ce) : DS X (.Return (some e) pos) (sRet ce) := by
  refine ⟨fun W tk => PS.imp (ps_ret (he.pe W tk)) fun D σ H ⟨m, env, st, S, R, hp⟩ => ?_⟩
  exact te_sb (f := fun env w st1 => .rt (.w w) st1) S R hp fun w st1 v H1 m1 f1 S1 R1 r1 q => q v H1 m1 f1 S1 r1
theorem ds_exp {e : Expr} {ce : En → Sto → Rs Wv} (he : DE X e ce) (hs : swapsWith e none pos.line X.env = pure false := by rfl) : DS X (.Expr e pos) (sExp ce) := by
  refine ⟨fun W tk => PS.imp (ps_expr (he.pe W tk) hs) fun D σ H ⟨m, env, st, S, R, hp⟩ => ?_⟩
  exact te_sb (f := fun env w st1 => .nx env st1) S R hp fun w st1 v H1 m1 f1 S1 R1 r1 q => q σ H1 m1 f1 S1 R1
theorem ds_if {t : Expr} {a b : List Stmt} {ct : En → Sto → Rs Bool} {ca cb : En → Sto → SR} (ht : DT X t ct) (ha : DB X a ca) (hb : DB X b cb) : DS X (.If t a b pos) (sIf ct ca cb) := by
  refine ⟨fun W tk => PS.imp (ps_if (ht.pt W tk) (ha.pss W tk) (hb.pss W tk)) fun D σ H ⟨m, env, st, S, R, hp⟩ => ?_⟩
  unfold sIf at hp
  rw [Rs.post_sb] at hp
  refine ⟨m, env, st, S, R, Rs.post_mono hp (fun x st1 q H1 m1 f1 S1 => ?_) fun _ _ h => h.x⟩
  have go : ∀ {c : En → Sto → SR}, (c env st1).post (okN X m st.length H D) (okR X m st.length H D) (okXs X W m st.length H) → tS X W c D σ H1 := fun q =>
    ⟨m1, env, st1, S1, R.mv f1, SR.post_mono q (fun _ _ q => okN.tr f1 q) (fun _ _ q => okR.tr f1 q) fun _ _ q => okXs.tr f1 q⟩
  cases x with
  | true => exact go q
  | false => exact go q
/-! ### targets -/
/-- σ' is σ but at the slots of S -/
def But (S : List Nat) (σ σ' : L2.St) : Prop := σ'.length = σ.length ∧ ∀ j, j ∉ S → σ'[j]? = σ[j]?
theorem But.refl {S : List Nat} {σ : L2.St} : But S σ σ := ⟨rfl, fun _ _ => rfl⟩
theorem But.set {S : List Nat} {σ : L2.St} {i : Nat} {v : Option V} (h : i ∈ S) : But S σ (σ.set i v) := ⟨by simp, fun j hj => List.getElem?_set_ne (fun e : i = j => hj (e ▸ h))⟩
theorem But.trans {S : List Nat} {σ σ1 σ2 : L2.St} (a : But S σ σ1) (b : But S σ1 σ2) : But S σ σ2 := ⟨b.1.trans a.1, fun j hj => (b.2 j hj).trans (a.2 j hj)⟩
/-- a value, or (E) a tuple of which no more is known than its items -/
def RWe (E : Prop) (K : Frg) (H : Hp) (m : Mp) (n : Nat) (v : V) (w : Wv) : Prop := RW K H m n v w ∨ (E ∧ ∃ (xs : List PyData) (a : Addr) (vs : List V), w = .d (.tuple xs) ∧ v = .ref a ∧ SqT K H a vs ∧ RpA K H (Off m n) vs xs)
structure DGE (E : Prop) (X : Cx) (S : List Nat) (tg : Expr) (g : Wv → En → Option En) : Prop where
  pg : PG X tg fun v σ H Q => ∃ m n env w env', RWe E X.K H m n v w ∧ EnvR X.K H m n env σ ∧ g w env = some env' ∧ ∀ σ', EnvR X.K H m n env' σ' → But S σ σ' → Q σ' H
abbrev DG := DGE False
structure DGs (X : Cx) (S : List Nat) (tg : List Expr) (g : List PyData → En → Option En) : Prop where
  pgs : PGs X tg fun vs σ H Q => ∃ m n env ds env', RpA X.K H (Off m n) vs ds ∧ EnvR X.K H m n env σ ∧ g ds env = some env' ∧ ∀ σ', EnvR X.K H m n env' σ' → But S σ σ' → Q σ' H
def gN (i : Nat) : Wv → En → Option En := fun w env => some (env.set i (some w))
def gTp (g : List PyData → En → Option En) : Wv → En → Option En := fun w env => match w with
  | .d (.tuple xs) => g xs env
  | _ => none
def gNl : List PyData → En → Option En := fun xs env => match xs with
  | [] => some env
  | _ => none
def gCn (g : Wv → En → Option En) (h : List PyData → En → Option En) : List PyData → En → Option En := fun xs env => match xs with
  | x :: r => (g (.d x) env).bind (h r)
  | [] => none
theorem PG.imp {e : Expr} {t t' : TG} (h : PG X e t) (q : ∀ v σ H Q, t' v σ H Q → t v σ H Q) : PG X e t' := ⟨fun pins s σ H v u Q I r x => h.run pins s σ H v u Q I r (q v σ H Q x)⟩
theorem PGs.imp {e : List Expr} {t t' : TGs} (h : PGs X e t) (q : ∀ v σ H Q, t' v σ H Q → t v σ H Q) : PGs X e t' := ⟨fun pins s σ H v u Q I r x => h.run pins s σ H v u Q I r (q v σ H Q x)⟩
theorem dg_name (c : Cxt M X B k) (S : List Nat) (i : Nat) {x : Str} (hi : B.N[i]? = some x) (hl : i ∈ B.ls) (hS : i ∈ S) : DG X S (.Name x pos) (gN i) := by
  obtain ⟨l1, l2⟩ := c.loc i hl x hi
  refine ⟨PG.imp (pg_name (by rw [c.hN]; exact c.nd) (by rw [c.hN]; exact hi) l1 l2) fun v σ H Q ⟨m, n, env, w, env', r, R, e, q⟩ => ?_⟩
  cases e
  rcases r with r | ⟨z, _⟩
  · exact q _ (R.set i r) (.set hS)
  · exact z.elim
theorem dgs_nil (S : List Nat) : DGs X S [] gNl := by
  refine ⟨PGs.imp pgs_nil fun v σ H Q ⟨m, n, env, ds, env', r, R, e, q⟩ => ?_⟩
  unfold gNl at e
  split at e
  · cases e
    cases r
    exact ⟨rfl, q σ R .refl⟩
  · cases e
theorem dgs_cons {S : List Nat} {e : Expr} {es : List Expr} {g : Wv → En → Option En} {h : List PyData → En → Option En} (h1 : DG X S e g) (h2 : DGs X S es h) (hs : (assignEach (e :: es) X.env).map (·.2) = assign e X.env :: (assignEach es X.env).map (·.2) := by rfl) : DGs X S (e :: es) (gCn g h) := by
  refine ⟨PGs.imp (pgs_cons h1.pg h2.pgs hs) fun v σ H Q ⟨m, n, env, ds, env', r, R, e, q⟩ => ?_⟩
  unfold gCn at e
  split at e
  · rename_i x r'
    cases r with
    | @cons v0 vr _ _ r1 r2 =>
      cases e1 : g (.d x) env with
      | none => rw [e1] at e; cases e
      | some env1 =>
        rw [e1] at e
        exact ⟨v0, vr, rfl, m, n, env, .d x, env1, .inl r1, R, e1, fun σ1 R1 b1 => ⟨m, n, env1, r', env', r2, R1, e, fun σ2 R2 b2 => q σ2 R2 (b1.trans b2)⟩⟩
  · cases e
/-- how many items a target asks -/
def Asks (g : List PyData → En → Option En) (n : Nat) : Prop := ∀ xs env env', g xs env = some env' → xs.length = n
theorem asks_nil : Asks gNl 0 := fun xs env env' h => by
  unfold gNl at h
  split at h
  · rfl
  · cases h
theorem asks_cons {g : Wv → En → Option En} {h : List PyData → En → Option En} {n : Nat} (a : Asks h n) : Asks (gCn g h) (n + 1) := fun xs env env' e => by
  unfold gCn at e
  split at e
  · rename_i x r
    cases e1 : g (.d x) env with
    | none => rw [e1] at e; cases e
    | some env1 => rw [e1] at e; simp [a r env1 env' e]
  · cases e
theorem dg_tup {E : Prop} (c : Cxt M X B k) {S : List Nat} {es : List Expr} {j n : Nat} {g : List PyData → En → Option En} (h : DGs X S es g) (a : Asks g n) (hn : (assignEach es X.env).length = n := by rfl) (hst : (assignEach es X.env).findIdx? (·.1) = none := by rfl) : DGE E X S (.Tuple es j pos) (gTp g) := by
  refine ⟨PG.imp (pg_tup c.calm h.pgs hn hst) fun v σ H Q ⟨m, n', env, w, env', r, R, e, q⟩ => ?_⟩
  unfold gTp at e
  split at e
  · rename_i xs
    rcases r with r | ⟨_, xs', b, vs, e1, rfl, h1, h2⟩
    · cases r with
      | tup h1 h2 => exact ⟨_, _, rfl, h1.sq, by rw [h2.len]; exact a _ _ _ e, m, n', env, xs, env', h2, R, e, q⟩
    · cases e1
      exact ⟨_, _, rfl, h1, by rw [h2.len]; exact a _ _ _ e, m, n', env, xs, env', h2, R, e, q⟩
  · cases e
def sAsg (g : Wv → En → Option En) (c : En → Sto → Rs Wv) : En → Sto → SR := fun env st => (c env st).sb fun w st1 => match g w env with
  | some env' => .nx env' st1
  | none => .no
theorem ds_asg {tg e : Expr} {g : Wv → En → Option En} {ce : En → Sto → Rs Wv} {S0 : List Nat} (he : DE X e ce) (hg : DG X S0 tg g) (hs : swapsWithSole [tg] e pos.line X.env = pure false := by rfl) (hw : swappedStores [tg] e X.env = pure none := by rfl)
    (h1 : (assignEach [tg] X.env).map (·.2) = [assign tg X.env] := by rfl) : DS X (.Assign [tg] e pos) (sAsg g ce) := by
  refine ⟨fun W tk => PS.imp (ps_asg (he.pe W tk) hg.pg hs hw h1) fun D σ H ⟨m, env, st, S, R, hp⟩ => ?_⟩
  refine te_sb (f := fun env w st1 => match g w env with | some env' => .nx env' st1 | none => .no) S R hp fun w st1 v H1 m1 f1 S1 R1 r1 q => ?_
  split at q
  · exact ⟨m1, st1.length, env, w, _, .inl r1, R1, by assumption, fun σ' R' _ => q σ' H1 m1 f1 S1 R'⟩
  · exact q.elim
/-- a, b = x, y of plain names -/
def sPar2 (i j : Nat) (c : En → Sto → Rs (List Wv)) : En → Sto → SR := fun env st => (c env st).sb fun ws st1 => match ws with
  | [v, w] => .nx ((env.set i (some v)).set j (some w)) st1
  | _ => .no
theorem ds_par2 (c : Cxt M X B k) (i j : Nat) {x y : Str} {a b : Expr} {ca : En → Sto → Rs (List Wv)} {px py pt : Pos} {kt : Nat} {k2 : Nat} {pt2 : Pos} (hi : B.N[i]? = some x) (hj : B.N[j]? = some y) (hij : i ≠ j) (hx : X.env.scope.names.lookup x = some .local) (hy : X.env.scope.names.lookup y = some .local) (ha : DA X [a, b] ca)
    (hw : swappedStores [.Tuple [.Name x px, .Name y py] kt pt] (.Tuple [a, b] k2 pt2) X.env = pure (some [x, y])) (hs : swapsWithSole [.Tuple [.Name x px, .Name y py] kt pt] (.Tuple [a, b] k2 pt2) pos.line X.env = pure false := by rfl) :
    DS X (.Assign [.Tuple [.Name x px, .Name y py] kt pt] (.Tuple [a, b] k2 pt2) pos) (sPar2 i j ca) := by
  refine ⟨fun W tk => PS.imp (ps_par c.calm (by rw [c.hN]; exact c.nd) (by rw [c.hN]; exact hi) (by rw [c.hN]; exact hj) hij hx hy (ha.pa W tk) hw hs) fun D σ H ⟨m, env, st, S, R, hp⟩ => ?_⟩
  unfold sPar2 at hp
  rw [Rs.post_sb] at hp
  refine ⟨m, env, st, S, R, Rs.post_mono hp (fun ws st1 q vs H1 m1 f1 S1 r1 => ?_) fun _ _ h => h.x⟩
  split at q
  · cases r1 with
    | cons r1 r2 =>
      cases r2 with
      | cons r2 r3 =>
        cases r3
        exact ⟨_, _, rfl, q _ H1 m1 f1 S1 (((R.mv f1).set i r1).set j r2)⟩
  · exact q.elim
def sPar3 (i j l : Nat) (c : En → Sto → Rs (List Wv)) : En → Sto → SR := fun env st => (c env st).sb fun ws st1 => match ws with
  | [u, v, w] => .nx (((env.set i (some u)).set j (some v)).set l (some w)) st1
  | _ => .no
theorem ds_par3 (c : Cxt M X B k) (i j l : Nat) {x y z : Str} {a b e : Expr} {ca : En → Sto → Rs (List Wv)} {px py pz pt : Pos} {kt : Nat} {k2 : Nat} {pt2 : Pos} (hi : B.N[i]? = some x) (hj : B.N[j]? = some y) (hl : B.N[l]? = some z) (hij : i ≠ j) (hil : i ≠ l) (hjl : j ≠ l)
    (hx : X.env.scope.names.lookup x = some .local) (hy : X.env.scope.names.lookup y = some .local) (hz : X.env.scope.names.lookup z = some .local) (ha : DA X [a, b, e] ca)
    (hw : swappedStores [.Tuple [.Name x px, .Name y py, .Name z pz] kt pt] (.Tuple [a, b, e] k2 pt2) X.env = pure (some [x, y, z])) (hs : swapsWithSole [.Tuple [.Name x px, .Name y py, .Name z pz] kt pt] (.Tuple [a, b, e] k2 pt2) pos.line X.env = pure false := by rfl) :
    DS X (.Assign [.Tuple [.Name x px, .Name y py, .Name z pz] kt pt] (.Tuple [a, b, e] k2 pt2) pos) (sPar3 i j l ca) := by
  refine ⟨fun W tk => PS.imp (ps_par3 c.calm (by rw [c.hN]; exact c.nd) (by rw [c.hN]; exact hi) (by rw [c.hN]; exact hj) (by rw [c.hN]; exact hl) hij hil hjl hx hy hz (ha.pa W tk) hw hs) fun D σ H ⟨m, env, st, S, R, hp⟩ => ?_⟩
  unfold sPar3 at hp
  rw [Rs.post_sb] at hp
  refine ⟨m, env, st, S, R, Rs.post_mono hp (fun ws st1 q vs H1 m1 f1 S1 r1 => ?_) fun _ _ h => h.x⟩
  split at q
  · cases r1 with
    | cons r1 r2 =>
      cases r2 with
      | cons r2 r3 =>
        cases r3 with
        | cons r3 r4 =>
          cases r4
          exact ⟨_, _, _, rfl, q _ H1 m1 f1 S1 ((((R.mv f1).set i r1).set j r2).set l r3)⟩
  · exact q.elim
end
end
section
variable [Wtp] [Tbl]
/-! ## a comprehension's block -/
def Tb.blk (B : Tb) (us ls : List Nat) (gs cs : List Str) : Tb := ⟨B.N, us, ls, [], gs, cs, false, B.gd, B.lq⟩
def kdV : Option NameKind → Bool
  | some .local => true
  | some .cell => true
  | some .free => true
  | _ => false
def kdL : Option NameKind → Bool
  | some .local => true
  | some .cell => true
  | _ => false
def kdC : Option NameKind → Bool
  | some .cell => true
  | some .free => true
  | _ => false
def kdG : Option NameKind → Bool
  | some .globalImplicit => true
  | _ => false
def blkT (B : Tb) (us ls : List Nat) (gs cs : List Str) (sc : Scope) (own : List (Str × Nat)) : Bool :=
  (match sc.kind with | .function => true | _ => false) &&
  ((sc.names.all fun y => decide (sc.names.lookup y.1 = some y.2)) &&
  ((own.all fun p => decide (B.N[p.2]? = some p.1)) &&
  ((sc.names.all fun y => match y.2 with
    | .free => decide (y.1 ∈ B.cs)
    | .local => decide (y.1 ∈ own.map (·.1)) || decide (y.1 ∉ B.N)
    | .cell => decide (y.1 ∈ own.map (·.1)) || decide (y.1 ∉ B.N)
    | _ => true) &&
  ((us.all fun i => match B.N[i]? with | some x => kdV (sc.names.lookup x) | none => true) &&
  ((ls.all fun i => match B.N[i]? with | some x => kdL (sc.names.lookup x) | none => true) &&
  ((gs.all fun x => kdG (sc.names.lookup x)) && (cs.all fun x => kdC (sc.names.lookup x))))))))
section
variable {M : Md} {X : Cx} {B : Tb} {k : Nat} {sc : Scope} {own : List (Str × Nat)} {us ls : List Nat} {gs cs : List Str}
theorem relS_keep {s0 : Scope} {x : Str} {q : NameKind} (h : sc.names.lookup x = some q) (hf : q ≠ .free) : (relS sc s0).names.lookup x = some q := lookup_relS_keep hf h
theorem relS_free {s0 : Scope} : ∀ {names : List (Str × NameKind)} {x : Str}, names.lookup x = some .free →
    (names.map fun (n, k) => if (k == NameKind.free && s0.kind == .function && s0.names.lookup n == some .cell) then (n, NameKind.cell) else (n, k)).lookup x = some .cell ∨
    (names.map fun (n, k) => if (k == NameKind.free && s0.kind == .function && s0.names.lookup n == some .cell) then (n, NameKind.cell) else (n, k)).lookup x = some .free
  | [], _, h => by simp at h
  | (n, q) :: r, x, h => by
    have ih := @relS_free s0 r x
    cases e : x == n with
    | true =>
      simp only [List.lookup_cons, e] at h
      cases h
      simp only [List.map_cons]
      split
      · exact .inl (by simp only [List.lookup_cons, e])
      · exact .inr (by simp only [List.lookup_cons, e])
    | false =>
      simp only [List.lookup_cons, e] at h
      simp only [List.map_cons]
      split
      · rcases ih h with z | z
        · exact .inl (by simp only [List.lookup_cons, e]; exact z)
        · exact .inr (by simp only [List.lookup_cons, e]; exact z)
      · rcases ih h with z | z
        · exact .inl (by simp only [List.lookup_cons, e]; exact z)
        · exact .inr (by simp only [List.lookup_cons, e]; exact z)
theorem vis_rel {s0 : Scope} {x : Str} (h : kdV (sc.names.lookup x) = true) : Vis (relS sc s0) x := by
  unfold kdV at h
  split at h
  · exact .inl (relS_keep (by assumption) (by decide))
  · exact .inr (.inl (relS_keep (by assumption) (by decide)))
  · rename_i e
    rcases relS_free (s0 := s0) e with z | z
    · exact .inr (.inl z)
    · exact .inr (.inr z)
  · cases h
theorem cap_rel {s0 : Scope} {x : Str} (h : kdC (sc.names.lookup x) = true) : (relS sc s0).names.lookup x = some .cell ∨ (relS sc s0).names.lookup x = some .free := by
  unfold kdC at h
  split at h
  · exact .inl (relS_keep (by assumption) (by decide))
  · rename_i e
    exact relS_free (s0 := s0) e
  · cases h
theorem loc_rel {s0 : Scope} {x : Str} (h : kdL (sc.names.lookup x) = true) : Loc (relS sc s0) x ∧ ((sc.names.lookup x == some .cell) = true ∨ (relS sc s0).names.lookup x = some .local) := by
  unfold kdL at h
  split at h
  · rename_i e
    exact ⟨.inl (relS_keep e (by decide)), .inr (relS_keep e (by decide))⟩
  · rename_i e
    exact ⟨.inr (relS_keep e (by decide)), .inl (by rw [e]; rfl)⟩
  · cases h
theorem Cxt.blkOk (c : Cxt M X B k) (h : blkT B us ls gs cs sc own = true) : BlkOk X.N X.env.scope sc own := by
  unfold blkT at h
  simp only [Bool.and_eq_true, List.all_eq_true, decide_eq_true_eq] at h
  obtain ⟨h1, h2, h3, h4, _⟩ := h
  refine ⟨?_, h2, by rw [c.hN]; exact h3, fun y hy e => ?_, fun y hy e => ?_⟩
  · split at h1
    · assumption
    · cases h1
  · have q := h4 y hy
    simp only [e, decide_eq_true_eq] at q
    exact c.cs _ q
  · have q := h4 y hy
    rw [c.hN]
    rcases e with e | e <;> (simp only [e, Bool.or_eq_true, decide_eq_true_eq] at q; exact q)
theorem Cxt.blk (c : Cxt M X B k) (h : blkT B us ls gs cs sc own = true) (s : Shared) (H : Hp) (C : Addr) (cl : List (Str × Addr)) (fp : List Addr) : Cxt M (X.blk s H sc (compEnvC sc cl C X.env) fp) (B.blk us ls gs cs) k := by
  unfold blkT at h
  simp only [Bool.and_eq_true, List.all_eq_true, decide_eq_true_eq] at h
  obtain ⟨h1, h2, h3, h4, h5, h6, h7, h8⟩ := h
  refine ⟨c.hP, c.hw, c.hK, c.mg, c.hb, c.hN, c.nd, c.calm, fun z => (Bool.false_ne_true z).elim, c.room, c.gu, fun i hi x hx => ?_, fun i hi x hx => ?_, fun i hi => absurd hi List.not_mem_nil, fun j x hx => ?_, fun x hx => ?_, fun z => (Bool.false_ne_true z).elim, c.lam, fun z => (Bool.false_ne_true z).elim⟩
  · have q := h5 i hi
    rw [show B.N[i]? = some x from hx] at q
    exact vis_rel q
  · have q := h6 i hi
    rw [show B.N[i]? = some x from hx] at q
    exact loc_rel q
  · have q := h7 x (List.mem_of_getElem? hx)
    unfold kdG at q
    split at q
    · rename_i e
      exact relS_keep e (by decide)
    · cases q
  · exact cap_rel (h8 x hx)
end
/-! ## what is walked -/
structure Sc where
  xs : List PyData
  lv : List (Nat × List PyData)
def lvOk (lv : List (Nat × List PyData)) (st : Sto) : Prop := ∀ p ∈ lv, st[p.1]? = some (.lst p.2)
@[simp] theorem lvOk_nil (st : Sto) : lvOk [] st = True := eq_true fun p hp => absurd hp List.not_mem_nil
theorem lvOk_one (i : Nat) (xs : List PyData) (st : Sto) : lvOk [(i, xs)] st = (st[i]? = some (.lst xs)) := propext ⟨fun h => h (i, xs) (by simp), fun h p hp => by cases List.mem_singleton.mp hp; exact h⟩
theorem lvOk_app (a b : List (Nat × List PyData)) (st : Sto) : lvOk (a ++ b) st = (lvOk a st ∧ lvOk b st) := propext ⟨fun h => ⟨fun p hp => h p (by simp [hp]), fun p hp => h p (by simp [hp])⟩, fun h p hp => (List.mem_append.mp hp).elim (h.1 p) (h.2 p)⟩
structure IsIt (E : Prop) (K : Frg) (J : It) (m : Mp) (n : Nat) (H : Hp) (sc : Sc) : Prop where
  go : ∀ i H2 m2 st2, Fol m n H m2 st2.length H2 → Sim K H2 m2 st2 → lvOk sc.lv st2 → i < sc.xs.length → J.go i H2
  stop : ∀ H2 m2 st2, Fol m n H m2 st2.length H2 → Sim K H2 m2 st2 → lvOk sc.lv st2 → J.stop sc.xs.length H2
  yld : ∀ i H2 m2 st2 v H3, Fol m n H m2 st2.length H2 → Sim K H2 m2 st2 → lvOk sc.lv st2 → i < sc.xs.length → J.yld i H2 v H3 → (∀ a o, H2 a = some o → H3 a = some o) ∧ ∃ d, sc.xs[i]? = some d ∧ RWe E K H3 m2 st2.length v (.d d)
def tI (E : Prop) (X : Cx) (W : WX) (c : En → Sto → Rs Sc) : TI := fun σ H R => ∃ m env st, Sim X.K H m st ∧ EnvR X.K H m st.length env σ ∧
  (c env st).post (fun sc st' => ∀ J H' m', Fol m st.length H m' st'.length H' → Sim X.K H' m' st' → IsIt E X.K J m' st'.length H' sc → R J H') (okX X W m st.length H σ)
structure DIE (E : Prop) (X : Cx) (tg e : Expr) (c : En → Sto → Rs Sc) : Prop where
  pi : ∀ W, Takes X W → PI X tg e (tI E X W c)
abbrev DI := DIE False
section
open Classical
/-- the turns of a for -/
noncomputable def forL (g : Wv → En → Option En) (b : En → Sto → SR) (lv : List (Nat × List PyData)) : List PyData → En → Sto → SR
  | [], env, st => if lvOk lv st then .nx env st else .no
  | x :: r, env, st => if lvOk lv st then match g (.d x) env with
      | some env1 => (b env1 st).seq (forL g b lv r)
      | none => .no
    else .no
noncomputable def sFor (c : En → Sto → Rs Sc) (g : Wv → En → Option En) (b : En → Sto → SR) : En → Sto → SR := fun env st => (c env st).sb fun sc st1 => forL g b sc.lv sc.xs env st1
def whL (t : En → Sto → Rs Bool) (b : En → Sto → SR) : Nat → En → Sto → SR
  | 0, _, _ => .no
  | f + 1, env, st => (t env st).sb fun x st1 => if x then (b env st1).seq (whL t b f) else .nx env st1
def sWh (f : Nat) (t : En → Sto → Rs Bool) (b : En → Sto → SR) : En → Sto → SR := whL t b f
def wipeE (env : En) : List Nat → En
  | [] => env
  | i :: vs => (wipeE env vs).set i none
/-- the turns of a comprehension -/
noncomputable def lcL (g : Wv → En → Option En) (t : En → Sto → Rs Bool) (c : En → Sto → Rs Wv) (lv : List (Nat × List PyData)) (env : En) : List PyData → List PyData → Sto → Rs (List PyData)
  | [], acc, st => if lvOk lv st then .ok acc st else .no
  | x :: r, acc, st => if lvOk lv st then match g (.d x) env with
      | some env1 => match t env1 st with
        | .ok true st1 => (match c env1 st1 with
          | .ok (.d y) st2 => lcL g t c lv env r (acc ++ [y]) st2
          | _ => .no)
        | .ok false st1 => lcL g t c lv env r acc st1
        | _ => .no
      | none => .no
    else .no
noncomputable def cLc (ci : En → Sto → Rs Sc) (g : Wv → En → Option En) (t : En → Sto → Rs Bool) (c : En → Sto → Rs Wv) (vs : List Nat) : En → Sto → Rs (List PyData) := fun env st => (ci env st).bind fun sc st1 =>
  if sc.xs.length ≤ 1000000 then lcL g t c sc.lv (wipeE env vs) sc.xs [] st1 else .no
noncomputable def eLc (ci : En → Sto → Rs Sc) (g : Wv → En → Option En) (t : En → Sto → Rs Bool) (c : En → Sto → Rs Wv) (vs : List Nat) : En → Sto → Rs Wv := fun env st => (cLc ci g t c vs env st).bind fun ys st2 => .ok (.d (.list ys)) st2
noncomputable def eLcN (ci : En → Sto → Rs Sc) (g : Wv → En → Option En) (t : En → Sto → Rs Bool) (c : En → Sto → Rs Wv) (vs : List Nat) : En → Sto → Rs Wv := fun env st => (cLc ci g t c vs env st).bind fun ys st2 => .ok (.r st2.length) (st2 ++ [.lst ys])
end
def tYs : En → Sto → Rs Bool := fun _ st => .ok true st
structure DTs (X : Cx) (es : List Expr) (c : En → Sto → Rs Bool) : Prop where
  pts : ∀ W, Takes X W → PTs X es (tT X W c)
section
variable {M : Md} {X : Cx} {B : Tb} {k : Nat} {pins : List (Addr × Obj)} {σ : L2.St} {H : Hp} {s : Shared} {m : Mp} {env : En} {st : Sto} {W : WX} {D : Ends} {pos : Pos}
theorem seq_post {x : SR} {f : En → Sto → SR} {N : En → Sto → Prop} {R : Rt → Sto → Prop} {E : Xc → Sto → Prop} (h : (x.seq f).post N R E) : x.post (fun env st => (f env st).post N R E) R E := by rw [SR.post_seq] at h; exact h
theorem ds_for {E : Prop} (c : Cxt M X B k) {tg e : Expr} {body : List Stmt} {ci : En → Sto → Rs Sc} {g : Wv → En → Option En} {cb : En → Sto → SR} (S0 : List Nat) (hi : DIE E X tg e ci) (hg : DGE E X S0 tg g) (hb : DB X body cb) (hf : B.fn = true := by rfl)
    (hs : ∀ x, foldedSetIterable e X.env x = pure x := by intro _; rfl) : DS X (.For tg e body [] pos) (sFor ci g cb) := by
  refine ⟨fun W tk => PS.imp (ps_for (c.po hf) c.calm (hi.pi W tk) hg.pg (hb.pss W tk) hs) fun D σ H ⟨m, env, st, S, R, hp⟩ => ?_⟩
  unfold sFor at hp
  rw [Rs.post_sb] at hp
  refine ⟨m, env, st, S, R, Rs.post_mono hp (fun sc st1 q J H1 m1 f1 S1 it => ?_) fun _ _ h => h.x⟩
  generalize hW : (fun (i mm : Nat) (σ' : L2.St) (H' : Hp) => mm = sc.xs.length - i ∧ i ≤ sc.xs.length ∧ ∃ m2 env2 st2, Fol m1 st1.length H1 m2 st2.length H' ∧ Sim X.K H' m2 st2 ∧ EnvR X.K H' m2 st2.length env2 σ' ∧
    (forL g cb sc.lv (sc.xs.drop i) env2 st2).post (okN X m st.length H D) (okR X m st.length H D) (okXs X W m st.length H)) = Wf
  refine ⟨Wf, by rw [← hW]; exact ⟨_, rfl, Nat.zero_le _, m1, env, st1, .refl, S1, R.mv f1, by simpa using q⟩, ?_⟩
  intro i mm σ2 H2 w
  rw [← hW] at w
  obtain ⟨rfl, hi2, m2, env2, st2, f2, S2, R2, q2⟩ := w
  by_cases hlt : i < sc.xs.length
  · rw [List.drop_eq_getElem_cons hlt] at q2
    unfold forL at q2
    split at q2
    · rename_i hl
      split at q2
      · rename_i env3 he3
        refine .inr ⟨it.go i H2 m2 st2 f2 S2 hl hlt, Wf (i + 1) (sc.xs.length - (i + 1)), fun σ' H' z => ⟨_, by omega, z⟩, fun v H3 y => ?_⟩
        obtain ⟨g3, d, hd, r3⟩ := it.yld i H2 m2 st2 v H3 f2 S2 hl hlt y
        rw [List.getElem?_eq_getElem hlt] at hd
        cases hd
        refine ⟨m2, st2.length, env2, .d sc.xs[i], env3, r3, R2.mv (.same g3), he3, fun σ3 R3 _ => ?_⟩
        refine ⟨m2, env3, st2, S2.grow g3, R3, SR.post_mono (seq_post q2) (fun env4 st4 q4 σ4 H4 m4 f4 S4 R4 => ?_) (fun p st4 q4 => ?_) fun e st4 q4 => ?_⟩
        · rw [← hW]; exact ⟨rfl, hlt, m4, env4, st4, (f2.trans (.same g3)).trans f4, S4, R4, q4⟩
        · exact okR.tr ((f1.trans f2).trans (.same g3)) q4
        · exact okXs.tr ((f1.trans f2).trans (.same g3)) q4
      · exact q2.elim
    · exact q2.elim
  · have e : i = sc.xs.length := by omega
    subst e
    rw [List.drop_length] at q2
    unfold forL at q2
    split at q2
    · rename_i hl
      exact .inl ⟨it.stop H2 m2 st2 f2 S2 hl, q2 σ2 H2 m2 (f1.trans f2) S2 R2⟩
    · exact q2.elim
theorem ds_wh (c : Cxt M X B k) {t : Expr} {body : List Stmt} {ct : En → Sto → Rs Bool} {cb : En → Sto → SR} (f : Nat) (ht : DT X t ct) (hb : DB X body cb) (hf : B.fn = true := by rfl) : DS X (.While t body [] pos) (sWh f ct cb) := by
  refine ⟨fun W tk => PS.imp (ps_while (c.po hf) (ht.pt W tk) (hb.pss W tk)) fun D σ H ⟨m, env, st, S, R, hp⟩ => ?_⟩
  generalize hW : (fun (mm : Nat) (σ' : L2.St) (H' : Hp) => ∃ m2 env2 st2, Fol m st.length H m2 st2.length H' ∧ Sim X.K H' m2 st2 ∧ EnvR X.K H' m2 st2.length env2 σ' ∧
    (whL ct cb mm env2 st2).post (okN X m st.length H D) (okR X m st.length H D) (okXs X W m st.length H)) = Wf
  refine ⟨Wf, by rw [← hW]; exact ⟨f, m, env, st, .refl, S, R, hp⟩, ?_⟩
  intro mm σ2 H2 w
  rw [← hW] at w
  obtain ⟨m2, env2, st2, f2, S2, R2, q2⟩ := w
  cases mm with
  | zero => exact q2.elim
  | succ mm =>
    unfold whL at q2
    rw [Rs.post_sb] at q2
    refine ⟨m2, env2, st2, S2, R2, Rs.post_mono q2 (fun x st3 q3 H3 m3 f3 S3 => ?_) fun e st3 h => (okXs.tr f2 h).x⟩
    cases x with
    | true =>
      refine ⟨Wf mm, fun σ' H' z => ⟨mm, Nat.lt_succ_self _, z⟩, m3, env2, st3, S3, R2.mv f3, SR.post_mono (seq_post q3) (fun env4 st4 q4 σ4 H4 m4 f4 S4 R4 => ?_) (fun p st4 q4 => ?_) fun e st4 q4 => ?_⟩
      · rw [← hW]; exact ⟨m4, env4, st4, (f2.trans f3).trans f4, S4, R4, q4⟩
      · exact okR.tr (f2.trans f3) q4
      · exact okXs.tr (f2.trans f3) q4
    | false => exact q3 σ2 H3 m3 (f2.trans f3) S3 (R2.mv f3)
theorem EnvR.unset {K : Frg} {n : Nat} (h : EnvR K H m n env σ) (i : Nat) : EnvR K H m n (env.set i none) (σ.set i none) := by
  refine ⟨by simp [h.len], fun j u e => ?_⟩
  by_cases q : i = j
  · subst q
    by_cases l : i < env.length
    · rw [List.getElem?_set_self l] at e; cases e
    · rw [List.getElem?_eq_none (by simpa using l)] at e; cases e
  · rw [List.getElem?_set_ne q] at e
    obtain ⟨x, h1, h2⟩ := h.at' j u e
    exact ⟨x, by rw [List.getElem?_set_ne q]; exact h1, h2⟩
theorem EnvR.wipe {K : Frg} {n : Nat} (h : EnvR K H m n env σ) : ∀ vs : List Nat, EnvR K H m n (wipeE env vs) (wipe σ vs)
  | [] => h
  | i :: vs => (EnvR.wipe h vs).unset i
theorem wipe_len (σ : L2.St) : ∀ vs : List Nat, (L2.wipe σ vs).length = σ.length
  | [] => rfl
  | i :: vs => by simp [L2.wipe, wipe_len σ vs]
theorem wipe_in {σ : L2.St} {i : Nat} : ∀ {vs : List Nat}, i ∈ vs → i < σ.length → (L2.wipe σ vs)[i]? = some none
  | j :: vs, h, l => by
    show ((L2.wipe σ vs).set j none)[i]? = some none
    by_cases e : j = i
    · subst e; exact List.getElem?_set_self (by rw [wipe_len]; exact l)
    · rw [List.getElem?_set_ne e]
      exact wipe_in ((List.mem_cons.mp h).resolve_left fun z => e z.symm) l
theorem But.wipe {S : List Nat} {vs : List Nat} {σ σ2 : L2.St} (b : But S (L2.wipe σ vs) σ2) (h : ∀ i ∈ S, i ∈ vs) : L2.wipe σ2 vs = L2.wipe σ vs := by
  have hl : σ2.length = σ.length := b.1.trans (wipe_len σ vs)
  refine List.ext_getElem? fun i => ?_
  by_cases q : i ∈ vs
  · by_cases l : i < σ.length
    · rw [wipe_in q (by rw [hl]; exact l), wipe_in q l]
    · rw [List.getElem?_eq_none (by rw [wipe_len, hl]; omega), List.getElem?_eq_none (by rw [wipe_len]; omega)]
  · rw [wipe_out q, b.2 i fun z => q (h i z)]
theorem dts_nil : DTs X [] tYs := ⟨fun W tk => ⟨fun pins s σ H Q I ⟨m, env, st, S, R, hp⟩ => pts_nil.run pins s σ H Q I (hp H m .refl S)⟩⟩
theorem dts_one {e : Expr} {c : En → Sto → Rs Bool} (h : DT X e c) : DTs X [e] c := ⟨fun W tk => pts_one (h.pt W tk)⟩
def Wno : WX := fun _ _ _ _ => False
theorem takes_no {X : Cx} : Takes X Wno := fun u s' ⟨a, B, sI, pins, σ, H, cls, d, e, I, nb, up, sky, na, os, ag, w⟩ => w.elim
/-- D is being made -/
def Mp.with (m : Mp) (D : Addr) : Mp := ⟨m.ix, fun a => m.F a ∨ a = D⟩
def Mp.done (m : Mp) (D : Addr) : Mp := ⟨m.ix, fun a => m.F a ∧ a ≠ D⟩
theorem Sim.sub {K : Frg} {m' : Mp} (S : Sim K H m st) (hi : m'.ix = m.ix) (hF : ∀ a, m'.F a → m.F a) : Sim K H m' st := by
  have kp : Kp K H (Off m st.length) H (Off m' st.length) := ⟨fun _ _ h => h, fun _ _ _ h => h, fun a o _ h z => ⟨h, by rw [hi]; exact z.1, fun q => z.2 (hF a q)⟩⟩
  refine ⟨fun i o e => ?_, fun i j => by rw [hi]; exact S.inj i j, fun a q => S.ff a (hF a q), fun i h q => S.fi i h (by rw [hi] at q; exact hF _ q), S.tb⟩
  have h := S.ob i o e
  rw [hi]
  cases o with
  | lst xs => obtain ⟨vs, h1, h2⟩ := h; exact ⟨vs, h1, h2.mv kp⟩
  | dct kvs => obtain ⟨vs, h1, h2⟩ := h; exact ⟨vs, h1, RpK.kp kp _ _ h2⟩
  | dtt kvs => obtain ⟨vs, h1, h2⟩ := h; exact ⟨vs, h1, RpT.kp kp _ _ h2⟩
  | lkd es => exact Rp.mv h kp
  | lkl xs => exact FzL.mv h kp
  | ins C es => exact InAt.mv h kp fun _ _ e => e
theorem off_done {n : Nat} {D : Addr} : ∀ a, Off m n a → Off (m.done D) n a := fun a z => ⟨z.1, fun q => z.2 q.1⟩
theorem Sim.start {K : Frg} {D : Addr} {o : HO} (S : Sim K H m st) (hn : H D = none) (nt : NT o := by exact fun _ z => nomatch z) : Sim K (upd H D o) (m.with D) st ∧ Fol m st.length H (m.with D) st.length (upd H D o) := by
  have g := grow_upd (o := o) hn
  have f : Fol m st.length H (m.with D) st.length (upd H D o) := ⟨fun a _ h => g a _ h, fun a _ _ h => g a _ h, fun a _ _ h _ => g a _ h, fun _ _ => rfl, fun i a b => absurd b (by omega), Nat.le_refl _, domOf g, fun a h =>
    ⟨fun q => q.resolve_right fun e => nn_no hn (e ▸ h), fun q => .inl q⟩⟩
  refine ⟨⟨fun i o e => (S.ob i o e).mv f fun u => g _ u, S.inj, fun a q => ?_, fun i hi q => ?_, S.tb.ext g⟩, f⟩
  · rcases q with q | q
    · exact domOf g a (S.ff a q)
    · rw [q]; exact ⟨o, upd_same, nt⟩
  · rcases q with q | q
    · exact S.fi i hi q
    · exact nn_no hn (by have := S.there hi; rwa [show m.ix i = D from q] at this)
theorem Fol.done {n n2 : Nat} {m2 : Mp} {H2 : Hp} {D : Addr} (f : Fol m n H m2 n2 H2) (hn : ¬ Nn H D) : Fol m n H (m2.done D) n2 H2 :=
  ⟨f.tup, f.frz, f.rest, f.old, f.new, f.le, f.dom, fun a h => ⟨fun q => (f.eF a h).mp q.1, fun q => ⟨(f.eF a h).mpr q, fun e => hn (e ▸ h)⟩⟩⟩
theorem off_new {n : Nat} {D : Addr} (hF : m.F D) {a : Addr} (z : Off m n a) : Off (mup (m.done D) n D) (n + 1) a := by
  refine ⟨fun i hi => ?_, fun q => z.2 q.1⟩
  by_cases q : i < n
  · rw [mup_old q]; exact z.1 i q
  · have e : i = n := by omega
    rw [e, mup_new]
    exact fun e => z.2 (e ▸ hF)
/-- what was being made becomes the store's newest -/
theorem Sim.made {K : Frg} {D : Addr} {xs : List V} {ds : List PyData} (S : Sim K H m st) (hF : m.F D) (hD : H D = some (.lst xs)) (r : RpA K H (Off m st.length) xs ds) : Sim K H (mup (m.done D) st.length D) (st ++ [.lst ds]) := by
  have kp : Kp K H (Off m st.length) H (Off (mup (m.done D) st.length D) (st.length + 1)) := ⟨fun _ _ h => h, fun _ _ _ h => h, fun a o _ h z => ⟨h, off_new hF z⟩⟩
  have hl : (st ++ [Ob.lst ds]).length = st.length + 1 := by simp
  have hx : ∀ i, i < st.length → m.ix i ≠ D := fun i hi e => S.fi i hi (e ▸ hF)
  refine ⟨fun i u e => ?_, fun i j hi hj e => ?_, fun a z => S.ff a z.1, fun i hi => ?_, S.tb⟩
  · rw [hl]
    by_cases q : i < st.length
    · rw [List.getElem?_append_left q] at e
      rw [mup_old q]
      have h := S.ob i u e
      cases u with
      | lst xs => obtain ⟨vs, h1, h2⟩ := h; exact ⟨vs, h1, h2.mv kp⟩
      | dct kvs => obtain ⟨vs, h1, h2⟩ := h; exact ⟨vs, h1, RpK.kp kp _ _ h2⟩
      | dtt kvs => obtain ⟨vs, h1, h2⟩ := h; exact ⟨vs, h1, RpT.kp kp _ _ h2⟩
      | lkd es => exact Rp.mv h kp
      | lkl xs => exact FzL.mv h kp
      | ins C es => exact InAt.mv h kp fun _ _ e => e
    · have e2 : i = st.length := by
        have := (List.getElem?_eq_some_iff.mp e).1
        rw [hl] at this
        omega
      subst e2
      simp at e
      subst e
      rw [mup_new]
      exact ⟨xs, hD, r.mv kp⟩
  · rw [hl] at hi hj
    by_cases h1 : i < st.length
    · by_cases h2 : j < st.length
      · rw [mup_old h1, mup_old h2] at e
        exact S.inj i j h1 h2 e
      · have : j = st.length := by omega
        subst this
        rw [mup_old h1, mup_new] at e
        exact absurd e (hx i h1)
    · have : i = st.length := by omega
      subst this
      by_cases h2 : j < st.length
      · rw [mup_new, mup_old h2] at e
        exact absurd e.symm (hx j h2)
      · omega
  · rw [hl] at hi
    by_cases q : i < st.length
    · rw [mup_old q]; exact fun z => S.fi i q z.1
    · have : i = st.length := by omega
      subst this
      rw [mup_new]
      exact fun z => z.2 rfl
/-- one more item -/
theorem _root_.LamX.Tabs.wr {T : List (Addr × Str)} {D : Addr} {o o' : HO} (t : LamX.Tabs T H) (hD : H D = some o) (ho : (∃ xs, o = .lst xs) ∨ (∃ kvs, o = .dK kvs) ∨ ∃ kvs, o = .dT kvs) : LamX.Tabs T (upd H D o') := fun p hp => by
  obtain ⟨ps, h1, h2, h3⟩ := t p hp
  refine ⟨ps, ?_, h2, fun pos cv hc => ?_⟩
  · rw [upd_ne]; exact h1
    intro e; rw [e, hD] at h1
    rcases ho with ⟨_, rfl⟩ | ⟨_, rfl⟩ | ⟨_, rfl⟩ <;> cases h1
  · obtain ⟨c, e, hq⟩ := h3 pos cv hc
    refine ⟨c, e, ?_⟩
    rw [upd_ne]; exact hq
    intro e2; rw [e2, hD] at hq
    rcases ho with ⟨_, rfl⟩ | ⟨_, rfl⟩ | ⟨_, rfl⟩ <;> cases hq
theorem Kp.push {K : Frg} {n : Nat} {D : Addr} {xs ys : List V} (hF : m.F D) (hD : H D = some (.lst ys)) : Kp K H (Off m n) (upd H D (.lst xs)) (Off m n) := by
  refine ⟨fun a us h => ?_, fun a o u h => ?_, fun a o _ h z => ⟨?_, z⟩⟩
  · rw [upd_ne]; exact h
    intro e; rw [e, hD] at h; cases h
  · rw [upd_ne]; exact h
    intro e; rw [e, hD] at h; cases h
  · rw [upd_ne]; exact h
    exact fun e => z.2 (e ▸ hF)
theorem Sim.push {K : Frg} {D : Addr} {xs ys : List V} (S : Sim K H m st) (hF : m.F D) (hD : H D = some (.lst ys)) : Sim K (upd H D (.lst xs)) m st := by
  have kp := Kp.push (K := K) (n := st.length) (xs := xs) hF hD
  refine ⟨fun i u e => ?_, S.inj, fun a z => ?_, S.fi, S.tb.wr hD (.inl ⟨_, rfl⟩)⟩
  · have h := S.ob i u e
    have hi : i < st.length := (List.getElem?_eq_some_iff.mp e).1
    have hx : m.ix i ≠ D := fun e => S.fi i hi (e ▸ hF)
    cases u with
    | lst xs => obtain ⟨vs, h1, h2⟩ := h; exact ⟨vs, by rw [upd_ne hx]; exact h1, h2.mv kp⟩
    | dct kvs => obtain ⟨vs, h1, h2⟩ := h; exact ⟨vs, by rw [upd_ne hx]; exact h1, RpK.kp kp _ _ h2⟩
    | dtt kvs => obtain ⟨vs, h1, h2⟩ := h; exact ⟨vs, by rw [upd_ne hx]; exact h1, RpT.kp kp _ _ h2⟩
    | lkd es => exact Rp.mv h kp
    | lkl xs => exact FzL.mv h kp
    | ins C es => exact InAt.mv h kp fun _ _ e => by rw [upd_ne hx]; exact e
  · by_cases e : a = D
    · rw [e]; exact ⟨_, upd_same, nt_lst⟩
    · obtain ⟨o, h, nt⟩ := S.ff a z
      exact ⟨o, by rw [upd_ne e]; exact h, nt⟩
theorem Fol.done2 {n n2 : Nat} {m2 : Mp} {H2 : Hp} (D : Addr) (f : Fol m n H m2 n2 H2) : Fol (m.done D) n H (m2.done D) n2 H2 :=
  ⟨f.tup, f.frz, f.rest, f.old, f.new, f.le, f.dom, fun a h => and_congr (f.eF a h) Iff.rfl⟩
theorem Fol.updD {n n2 : Nat} {m2 : Mp} {H2 : Hp} {D : Addr} {o : HO} (f : Fol m n H m2 n2 H2) (hn : ¬ Nn H D) (nt : NT o := by exact fun _ z => nomatch z) : Fol m n H m2 n2 (upd H2 D o) := by
  have nd : ∀ {a o}, H a = some o → NT o → a ≠ D := fun h nt e => hn ⟨_, e ▸ h, nt⟩
  exact ⟨fun a xs h => by rw [upd_ne (nd h fun _ z => nomatch z)]; exact f.tup a xs h, fun a o u h => by rw [upd_ne (nd h fun _ z => nomatch z)]; exact f.frz a o u h, fun a o nt h z => by rw [upd_ne (nd h nt)]; exact f.rest a o nt h z, f.old, f.new, f.le, fun a h => by
    by_cases e : a = D
    · rw [e]; exact ⟨_, upd_same, nt⟩
    · obtain ⟨o2, h2, nt2⟩ := f.dom a h
      exact ⟨o2, by rw [upd_ne e]; exact h2, nt2⟩
  , f.eF⟩
theorem Fol.undone {n n2 : Nat} {m2 : Mp} {H2 : Hp} {D : Addr} (f : Fol m n H (m2.done D) n2 H2) (hn : ¬ Nn H D) : Fol m n H m2 n2 H2 :=
  ⟨f.tup, f.frz, f.rest, f.old, f.new, f.le, f.dom, fun a h => ⟨fun q => (f.eF a h).mp ⟨q, fun e => hn (e ▸ h)⟩, fun q => ((f.eF a h).mpr q).1⟩⟩
/-- a comprehension, the new list at D -/
theorem lc_tLc {E : Prop} {ci : En → Sto → Rs Sc} {g : Wv → En → Option En} {t : En → Sto → Rs Bool} {c : En → Sto → Rs Wv} {vs : List Nat} {S0 : List Nat} {tg : TG} {Q : VK} (hS : ∀ i ∈ S0, i ∈ vs)
    (htg : ∀ v σ H Q, (∃ m n env w env', RWe E X.K H m n v w ∧ EnvR X.K H m n env σ ∧ g w env = some env' ∧ ∀ σ', EnvR X.K H m n env' σ' → But S0 σ σ' → Q σ' H) → tg v σ H Q)
    (S : Sim X.K H m st) (R : EnvR X.K H m st.length env σ)
    (hp : (cLc ci g t c vs env st).post (fun ys st' => ∀ D H' m' xs, ¬ Nn H D → Fol m st.length H (m'.done D) st'.length H' → Sim X.K H' m' st' → m'.F D → H' D = some (.lst xs) → RpA X.K H' (Off m' st'.length) xs ys → Q (.ref D) H') (okX X W m st.length H σ)) :
    tLc (tI E X W ci) tg (tT X Wno t) (tE X Wno c) vs σ H Q := by
  unfold cLc at hp
  rw [Rs.post_bind] at hp
  refine ⟨m, env, st, S, R, Rs.post_mono hp (fun sc st1 q J H1 m1 f1 S1 it => ?_) fun _ _ h => h⟩
  split at q
  · rename_i hlen
    intro D hD
    have hD0 : ¬ Nn H D := fun z => nn_no hD (f1.dom D z)
    obtain ⟨S0', f0⟩ := S1.start (D := D) (o := .lst []) hD
    generalize hW : (fun (i mm : Nat) (Hc : Hp) => mm = sc.xs.length - i ∧ i ≤ sc.xs.length ∧ ∃ m2 st2 acc us, Fol m1 st1.length H1 (m2.done D) st2.length Hc ∧ Sim X.K Hc m2 st2 ∧ m2.F D ∧ Hc D = some (.lst us) ∧ RpA X.K Hc (Off m2 st2.length) us acc ∧ acc.length ≤ i ∧
      (lcL g t c sc.lv (wipeE env vs) (sc.xs.drop i) acc st2).post (fun ys st' => ∀ D H' m' xs, ¬ Nn H D → Fol m st.length H (m'.done D) st'.length H' → Sim X.K H' m' st' → m'.F D → H' D = some (.lst xs) → RpA X.K H' (Off m' st'.length) xs ys → Q (.ref D) H') (okX X W m st.length H σ)) = Wf
    refine ⟨Wf, ⟨_, by rw [← hW]; exact ⟨rfl, Nat.zero_le _, m1.with D, st1, [], [], f0.done (nn_no hD), S0', .inr rfl, upd_same, .nil, Nat.le_refl _, by simpa using q⟩⟩, ?_⟩
    intro i mm Hc w
    rw [← hW] at w
    obtain ⟨rfl, hi2, m2, st2, acc, us, f2, S2, F2, hc2, r2, ha2, q2⟩ := w
    by_cases hlt : i < sc.xs.length
    · rw [List.drop_eq_getElem_cons hlt] at q2
      unfold lcL at q2
      split at q2
      · rename_i hl
        split at q2
        · rename_i env3 he3
          refine .inr ⟨it.go i Hc m2 st2 (f2.undone (nn_no hD)) S2 hl hlt, Wf (i + 1) (sc.xs.length - (i + 1)), fun H' z => ⟨_, by omega, z⟩, fun v H3 y => ?_⟩
          obtain ⟨g3, d, hd, r3⟩ := it.yld i Hc m2 st2 v H3 (f2.undone (nn_no hD)) S2 hl hlt y
          rw [List.getElem?_eq_getElem hlt] at hd
          cases hd
          have fe : Fol m st.length H m2 st2.length H3 := (f1.trans (f2.undone (nn_no hD))).trans (.same g3)
          refine htg _ _ _ _ ⟨m2, st2.length, wipeE env vs, .d sc.xs[i], env3, r3, (R.mv fe).wipe vs, he3, fun σ3 R3 b3 => ⟨b3.wipe hS, ?_⟩⟩
          refine ⟨m2, env3, st2, S2.grow g3, R3, ?_⟩
          split at q2
          · rename_i st4 ht4
            rw [ht4]
            intro H4 m4 f4 S4
            rw [if_pos rfl]
            refine ⟨m4, env3, st4, S4, R3.mv f4, ?_⟩
            split at q2
            · rename_i y5 st5 hc5
              rw [hc5]
              intro v5 H5 m5 f5 S5 r5
              have c3 : H3 D = some (.lst us) := g3 _ _ hc2
              have fD : Fol m2 st2.length Hc m5 st5.length H5 := (Fol.same g3).trans (f4.trans f5)
              have nD : ∀ i, i < st2.length → m2.ix i ≠ D := fun i hi e => S2.fi i hi (e ▸ F2)
              have c5 : H5 D = some (.lst us) := fD.rest _ _ nt_lst hc2 nD
              have F5 : m5.F D := (fD.eF D ⟨_, hc2, nt_lst⟩).mpr F2
              have kp : Kp X.K H5 (Off m5 st5.length) (upd H5 D (.lst (us ++ [v5]))) (Off m5 st5.length) := .push F5 c5
              refine ⟨us, c5, ?_, ?_⟩
              · have : us.length = acc.length := r2.len
                have := line_lim
                omega
              · rw [← hW]
                refine ⟨rfl, hlt, m5, st5, acc ++ [y5], us ++ [v5], ?_, S5.push F5 c5, F5, upd_same, ?_, ?_, q2⟩
                · exact (f2.trans (fD.done2 D)).updD (nn_no hD)
                · exact ((r2.mv fD.kp).app (.cons r5 .nil)).mv kp
                · simp; exact ha2
            · exact q2.elim
          · rename_i st4 ht4
            rw [ht4]
            intro H4 m4 f4 S4
            rw [if_neg Bool.false_ne_true]
            have fD : Fol m2 st2.length Hc m4 st4.length H4 := (Fol.same g3).trans f4
            have nD : ∀ i, i < st2.length → m2.ix i ≠ D := fun i hi e => S2.fi i hi (e ▸ F2)
            have c5 : H4 D = some (.lst us) := fD.rest _ _ nt_lst hc2 nD
            have F5 : m4.F D := (fD.eF D ⟨_, hc2, nt_lst⟩).mpr F2
            rw [← hW]
            exact ⟨rfl, hlt, m4, st4, acc, us, f2.trans (fD.done2 D), S4, F5, c5, r2.mv fD.kp, Nat.le_succ_of_le ha2, q2⟩
          · exact q2.elim
        · exact q2.elim
      · exact q2.elim
    · have e : i = sc.xs.length := by omega
      subst e
      rw [List.drop_length] at q2
      unfold lcL at q2
      split at q2
      · rename_i hl
        exact .inl ⟨it.stop Hc m2 st2 (f2.undone (nn_no hD)) S2 hl, q2 D Hc m2 us hD0 ((f1.trans (f2.undone (nn_no hD))).done hD0) S2 F2 hc2 r2⟩
      · exact q2.elim
  · exact q.elim
end
end
section
variable [Wtp] [Tbl]
/-! ## enumerate and zip over lists and tuples of any mix -/
inductive Kd where
  | l
  | t
namespace Kd
def ob : Kd → Addr → Obj
  | l, a => { cls := .type "list_iterator", data := .fields #[.ref a, .int 0 0] }
  | t, a => { cls := .type "tuple_iterator", data := .fields #[.ref a, .int 0 0] }
def it (q : Kd) (h : Heap) (i a : Addr) (n : Nat) : Prop := match q with
  | l => h.IsListIter i a n
  | t => h.IsTupleIter i a n
def here (q : Kd) (h : Heap) (a : Addr) (xs : Array Value) : Prop := match q with
  | l => h.IsList a xs
  | t => h.IsTuple a xs
def sq (q : Kd) (K : Frg) (H : Hp) (a : Addr) (xs : List V) : Prop := match q with
  | l => SqL K H a xs
  | t => SqT K H a xs
section
variable {q : Kd} {h h' : Heap} {i a : Addr} {n : Nat} {xs : Array Value}
theorem begins (q : Kd) (a : Addr) (xs : Array Value) : Begins (.ref a) (q.ob a) fun h => q.here h a xs := by
  cases q with
  | l => exact begins_list a xs
  | t => exact begins_tuple a xs
theorem free (q : Kd) (a : Addr) : (q.ob a).isFreed = false := by cases q <;> rfl
theorem first (e : h.get? i = some (q.ob a)) : q.it h i a 0 := by
  cases q with
  | l => exact ⟨_, e, rfl, rfl⟩
  | t => exact ⟨_, e, rfl, rfl⟩
theorem draws {prog : Program} {w : World} {A : Around} (q : Kd) (hh : A.handled = none) (hne : a ≠ i) (xs : Array Value) : Draws prog w A i [i, a] xs.size (fun j v => xs[j]? = some v) (fun j h => q.it h i a j ∧ q.here h a xs) := by
  cases q with
  | l => exact .list hh i a hne xs
  | t => exact .tuple hh i a hne xs
theorem it_at (s : q.it h i a n) (k : ∀ o, h.get? i = some o → h'.get? i = some o) : q.it h' i a n := by
  cases q with
  | l => exact Heap.IsListIter.at s k
  | t => exact Heap.IsTupleIter.at s k
theorem it_ob (s : q.it h i a n) : ∃ o, h.get? i = some o ∧ ∀ v, o.data ≠ .cell v := by
  cases q with
  | l => obtain ⟨o, e, _, d⟩ := s; exact ⟨o, e, fun v z => by rw [d] at z; cases z⟩
  | t => obtain ⟨o, e, _, d⟩ := s; exact ⟨o, e, fun v z => by rw [d] at z; cases z⟩
end
section
variable {X : Cx} {q : Kd} {pins : List (Addr × Obj)} {σ : L2.St} {H : Hp} {s : Shared} {a : Addr} {xs ys : List V}
theorem of (I : Inv X pins σ H s) (h : q.sq X.K H a xs) : ∃ us : List Value, Vals xs us ∧ q.here s.heap a us.toArray := by
  cases q with
  | l => obtain ⟨us, r, p, _⟩ := I.list h; exact ⟨us, r, p.isList⟩
  | t => obtain ⟨us, r, p, _⟩ := I.tuple h; exact ⟨us, r, p⟩
theorem inj (I : Inv X pins σ H s) (h : q.sq X.K H a xs) (h' : q.sq X.K H a ys) : xs = ys := by
  cases q with
  | l => exact I.list_inj h h'
  | t => exact I.tuple_inj h h'
end
end Kd
/-- a new pair at each turn -/
def JZ (K : Frg) (p q : Kd) (a b : Addr) : It :=
  ⟨fun i H => ∃ xs ys x y, p.sq K H a xs ∧ q.sq K H b ys ∧ xs[i]? = some x ∧ ys[i]? = some y,
   fun i H v H' => ∃ T x y, v = .ref T ∧ H T = none ∧ H' = upd H T (.tup [x, y]) ∧ (∀ xs, p.sq K H a xs → xs[i]? = some x) ∧ ∀ ys, q.sq K H b ys → ys[i]? = some y,
   fun i H => ∃ xs ys, p.sq K H a xs ∧ q.sq K H b ys ∧ i = min xs.length ys.length⟩
section
variable {P : Program} {w : World} {K : Frg} {elts : List Expr} {kk : Nat} {tpos : Pos}
theorem turn_JZ (p q : Kd) (a b N : Addr) (la : a < N) (lb : b < N) : Turn P w K (.Tuple elts kk tpos) (JZ K p q a b) [N + 4, N + 2, N + 3, N, N + 1] (N + 4) (fun n h => IsZip h (N + 4) (N + 2) (N + 3) .none ∧ IsTupOf2 h (N + 2) (.ref (N)) (.ref (N + 1)) ∧ (∃ u0 u1, IsTupOf2 h (N + 3) u0 u1) ∧ p.it h (N) a n ∧ q.it h (N + 1) b n) where
  mem := by simp
  obj := fun n h st b' hb' => by
    obtain ⟨hz, hI, ⟨u0, u1, hO⟩, h0, h1⟩ := st
    rcases (show b' = N + 4 ∨ b' = N + 2 ∨ b' = N + 3 ∨ b' = N ∨ b' = N + 1 by simpa using hb') with e | e | e | e | e
    · rw [e]; exact ⟨_, hz, fun v q => nomatch q⟩
    · rw [e]; exact ⟨_, hI, fun v q => nomatch q⟩
    · rw [e]; exact ⟨_, hO, fun v q => nomatch q⟩
    · rw [e]; exact Kd.it_ob h0
    · rw [e]; exact Kd.it_ob h1
  keep := fun n h h' st k => by
    obtain ⟨hz, hI, ⟨u0, u1, hO⟩, h0, h1⟩ := st
    exact ⟨k _ (by simp) _ hz, k _ (by simp) _ hI, ⟨u0, u1, k _ (by simp) _ hO⟩, Kd.it_at h0 fun o q => k _ (by simp) o q, Kd.it_at h1 fun o q => k _ (by simp) o q⟩
  item := by
    intro X hP hw hK hc n pins s σ H E I hf st hg
    subst hP hw hK
    obtain ⟨hz, hI, hO, h0, h1⟩ := st
    obtain ⟨xs, ys, x, y, q0, q1, e0, e1⟩ := hg
    obtain ⟨us0, rv0, hu0⟩ := Kd.of I q0
    obtain ⟨us1, rv1, hu1⟩ := Kd.of I q1
    obtain ⟨w0, ew0, rw0⟩ := rv0.get e0
    obtain ⟨w1, ew1, rw1⟩ := rv1.get e1
    have D0 := p.draws (prog := X.prog) (w := X.w) (A := X.A.in1) (i := N) (a := a) (show X.A.in1.handled = none from I.ok.hd hc) (by have := la; intro e; rw [e] at this; exact absurd this (Nat.not_lt.mpr (by simp))) us0.toArray
    have D1 := q.draws (prog := X.prog) (w := X.w) (A := X.A.in1) (i := N + 1) (a := b) (show X.A.in1.handled = none from I.ok.hd hc) (by have := lb; intro e; rw [e] at this; exact absurd this (Nat.not_lt.mpr (by simp))) us1.toArray
    have G := GoesN.zip2 (elts := elts) (x1 := kk) (pos := tpos) (zip_sep2 (N := N) (fp1 := [a]) (fun d hd => by rw [List.mem_singleton.mp hd]; exact la) (fp2 := [b]) (fun d hd => by rw [List.mem_singleton.mp hd]; exact lb)) D0 D1
    have hlt : n < min us0.toArray.size us1.toArray.size := by
      have l0 := (List.getElem?_eq_some_iff.mp ew0).1
      have l1 := (List.getElem?_eq_some_iff.mp ew1).1
      simp; omega
    refine wpAny_mono (G.goes n s (fun v s2 => ∃ x' H', Inv X pins σ H' s2 ∧ RelV x' v ∧ (JZ X.K p q a b).yld n H x' H' ∧ (IsZip s2.heap (N + 4) (N + 2) (N + 3) .none ∧ IsTupOf2 s2.heap (N + 2) (.ref (N)) (.ref (N + 1)) ∧ (∃ u0 u1, IsTupOf2 s2.heap (N + 3) u0 u1) ∧ p.it s2.heap (N) a (n + 1) ∧ q.it s2.heap (N + 1) b (n + 1)) ∧ ∀ b ∈ [N + 4, N + 2, N + 3, N, N + 1], H' b = none) E hlt ⟨hz, hI, hO, ⟨h0, hu0⟩, ⟨h1, hu1⟩⟩ fun v h' tk y st' keep _ => ?_) (fun r s1 ⟨v, e1, q⟩ => ⟨v, e1, q⟩) fun _ _ z => z
    obtain ⟨T, x2, y2, ev, hT, k0, k1, hI2⟩ := y
    subst ev
    have v0 : x2 = w0 := by
      have : us0[n]? = some x2 := by simpa using k0
      rw [ew0] at this; cases this; rfl
    subst v0
    have v1 : y2 = w1 := by
      have : us1[n]? = some y2 := by simpa using k1
      rw [ew1] at this; cases this; rfl
    subst v1
    obtain ⟨z', I', O', g0, g1⟩ := st'
    refine ⟨.ref T, upd H T (.tup [x, y]), ?_, rfl, ⟨T, x, y, rfl, I.hok.fresh hT, rfl, fun l hl => by rw [Kd.inj I hl q0]; exact e0, fun l hl => by rw [Kd.inj I hl q1]; exact e1⟩, ⟨z', I', O', g0.1, g1.1⟩, fun b' hb' => ?_⟩
    · refine I.turnedNew (t' := tk) (ch := [N + 4, N + 3, N, N + 1]) keep (fun b' hb' => hf b' (by rcases (show b' = N + 4 ∨ b' = N + 3 ∨ b' = N ∨ b' = N + 1 by simpa using hb') with e | e | e | e <;> (rw [e]; simp))) hT ⟨by show 2 ≤ sizeLine; decide, [x2, y2], .cons rw0 (.cons rw1 .nil), hI2⟩
    · have ne : b' ≠ T := fun e => by
        have : ∃ o, s.heap.get? b' = some o := by
          rcases (show b' = N + 4 ∨ b' = N + 2 ∨ b' = N + 3 ∨ b' = N ∨ b' = N + 1 by simpa using hb') with e | e | e | e | e
          · rw [e]; exact ⟨_, hz⟩
          · rw [e]; exact ⟨_, hI⟩
          · obtain ⟨u0, u1, hO⟩ := hO; rw [e]; exact ⟨_, hO⟩
          · rw [e]; obtain ⟨o, eo, _⟩ := Kd.it_ob h0; exact ⟨o, eo⟩
          · rw [e]; obtain ⟨o, eo, _⟩ := Kd.it_ob h1; exact ⟨o, eo⟩
        obtain ⟨o, eo⟩ := this
        have := Heap.lt_size eo
        rw [e] at this
        exact absurd hT (Nat.not_le.mpr this)
      rw [upd_ne ne]
      exact (hf b' hb').1
  done := by
    intro X hP hw hK hc n pins s σ H E I hf st hg
    subst hP hw hK
    obtain ⟨hz, hI, hO, h0, h1⟩ := st
    obtain ⟨xs, ys, q0, q1, en⟩ := hg
    obtain ⟨us0, rv0, hu0⟩ := Kd.of I q0
    obtain ⟨us1, rv1, hu1⟩ := Kd.of I q1
    have D0 := p.draws (prog := X.prog) (w := X.w) (A := X.A.in1) (i := N) (a := a) (show X.A.in1.handled = none from I.ok.hd hc) (by have := la; intro e; rw [e] at this; exact absurd this (Nat.not_lt.mpr (by simp))) us0.toArray
    have D1 := q.draws (prog := X.prog) (w := X.w) (A := X.A.in1) (i := N + 1) (a := b) (show X.A.in1.handled = none from I.ok.hd hc) (by have := lb; intro e; rw [e] at this; exact absurd this (Nat.not_lt.mpr (by simp))) us1.toArray
    have G := GoesN.zip2 (elts := elts) (x1 := kk) (pos := tpos) (zip_sep2 (N := N) (fp1 := [a]) (fun d hd => by rw [List.mem_singleton.mp hd]; exact la) (fp2 := [b]) (fun d hd => by rw [List.mem_singleton.mp hd]; exact lb)) D0 D1
    have hn : n = min us0.toArray.size us1.toArray.size := by
      have l0 := rv0.length
      have l1 := rv1.length
      simp; omega
    subst hn
    refine G.stops s (fun s1 => Inv X pins σ H s1) E ⟨hz, hI, hO, ⟨h0, hu0⟩, ⟨h1, hu1⟩⟩ fun h' tk keep _ => ?_
    exact I.turnedL (t' := tk) (ch := [N + 4, N + 3, N, N + 1]) keep (fun b' hb' => hf b' (by rcases (show b' = N + 4 ∨ b' = N + 3 ∨ b' = N ∨ b' = N + 1 by simpa using hb') with e | e | e | e <;> (rw [e]; simp)))
  self := fun A n s Q E st h => wpAny_pyIter_zip st.1 h
end
end
section
variable [Wtp] [Tbl]
/-! ## the sources of a loop -/
def seqW (w : Wv) (st : Sto) : Option Sc := match w with
  | .d (.list xs) => some ⟨xs, []⟩
  | .d (.tuple xs) => some ⟨xs, []⟩
  | .r i => match st[i]? with
    | some (.lst xs) => some ⟨xs, [(i, xs)]⟩
    | _ => none
  | _ => none
@[simp] theorem seqW_list (xs : List PyData) (st : Sto) : seqW (.d (.list xs)) st = some ⟨xs, []⟩ := rfl
@[simp] theorem seqW_tuple (xs : List PyData) (st : Sto) : seqW (.d (.tuple xs)) st = some ⟨xs, []⟩ := rfl
def sgnD (c : Nat) : PyData := .str ⟨#[c]⟩
/-- the keys of the dict are told: none of them a tuple, where tuples are told plain -/
def kF (es : List (PyData × PyData)) : Bool := (!Wtp.F) || es.all fun x => (keyD x.1).isSome
def cSeq (c : En → Sto → Rs Wv) : En → Sto → Rs Sc := fun env st => (c env st).bind fun w st1 => match w with
  | .d (.str x) => .ok ⟨x.cps.toList.map sgnD, []⟩ st1
  | .d (.dict es) => if kF es then .ok ⟨es.map (·.1), []⟩ st1 else .no
  | w => match seqW w st1 with
    | some sc => .ok sc st1
    | none => .no
def pairD (x y : PyData) : PyData := .tuple [x, y]
def zip3 : List PyData → List PyData → List PyData → List PyData
  | x :: xs, y :: ys, z :: zs => .tuple [x, y, z] :: zip3 xs ys zs
  | _, _, _ => []
def cZip2 (cs : En → Sto → Rs (List Wv)) : En → Sto → Rs Sc := fun env st => (cs env st).bind fun ws st1 => match ws with
  | [u, v] => match seqW u st1, seqW v st1 with
    | some a, some b => .ok ⟨List.zipWith pairD a.xs b.xs, a.lv ++ b.lv⟩ st1
    | _, _ => .no
  | _ => .no
def cZip3 (cs : En → Sto → Rs (List Wv)) : En → Sto → Rs Sc := fun env st => (cs env st).bind fun ws st1 => match ws with
  | [u, v, w] => match seqW u st1, seqW v st1, seqW w st1 with
    | some a, some b, some c => .ok ⟨zip3 a.xs b.xs c.xs, (a.lv ++ b.lv) ++ c.lv⟩ st1
    | _, _, _ => .no
  | _ => .no
def enumD (xs : List PyData) : List PyData := xs.mapIdx fun i x => .tuple [.int (i : Nat), x]
def cEnum (cs : En → Sto → Rs (List Wv)) : En → Sto → Rs Sc := fun env st => (cs env st).bind fun ws st1 => match ws with
  | [u] => match seqW u st1 with
    | some a => .ok ⟨enumD a.xs, a.lv⟩ st1
    | _ => .no
  | _ => .no
def rangeD (lo : Int) (n : Nat) : List PyData := (List.range n).map fun i => .int (lo + (i : Nat))
def downD (lo : Int) (n : Nat) : List PyData := (List.range n).map fun i => .int (lo - (i : Nat))
def rgOk (i : Int) : Bool := decide (-(2 ^ 62) ≤ i) && decide (i < 2 ^ 62)
def cRg1 (cs : En → Sto → Rs (List Wv)) : En → Sto → Rs Sc := fun env st => (cs env st).bind fun ws st1 => match ws with
  | [.d (.int j)] => if rgOk j then .ok ⟨rangeD 0 j.toNat, []⟩ st1 else .no
  | _ => .no
def cRg2 (cs : En → Sto → Rs (List Wv)) : En → Sto → Rs Sc := fun env st => (cs env st).bind fun ws st1 => match ws with
  | [.d (.int i), .d (.int j)] => if rgOk i && rgOk j then .ok ⟨rangeD i (j - i).toNat, []⟩ st1 else .no
  | _ => .no
def cRgD (cs : En → Sto → Rs (List Wv)) : En → Sto → Rs Sc := fun env st => (cs env st).bind fun ws st1 => match ws with
  | [.d (.int i), .d (.int j), .d (.int (-1))] => if rgOk i && rgOk j then .ok ⟨downD i (i - j).toNat, []⟩ st1 else .no
  | _ => .no
/-- what stands at a stays -/
structure HoldsAt (K : Frg) (m : Mp) (n : Nat) (H : Hp) (sc : Sc) (q : Kd) (a : Addr) : Prop where
  at' : ∀ H2 m2 st2, Fol m n H m2 st2.length H2 → Sim K H2 m2 st2 → lvOk sc.lv st2 → ∃ us, q.sq K H2 a us ∧ RpA K H2 (Off m2 st2.length) us sc.xs
section
variable {K : Frg} {m : Mp} {H : Hp} {st : Sto} {n : Nat}
theorem seqW_at {v : V} {w : Wv} {sc : Sc} (S : Sim K H m st) (r : RW K H m st.length v w) (e : seqW w st = some sc) : ∃ a q, v = .ref a ∧ HoldsAt K m st.length H sc q a := by
  unfold seqW at e
  split at e
  · cases e
    cases r with
    | lst h1 h2 => exact ⟨_, .l, rfl, ⟨fun H2 m2 st2 f S2 _ => ⟨_, (f.kp.ls h1).sq, h2.mv f.kp⟩⟩⟩
  · cases e
    cases r with
    | tup h1 h2 => exact ⟨_, .t, rfl, ⟨fun H2 m2 st2 f S2 _ => ⟨_, f.kp.sqt h1.sq, h2.mv f.kp⟩⟩⟩
  · split at e
    · rename_i i _ xs e1
      cases e
      refine ⟨m.ix i, .l, r.2, ⟨fun H2 m2 st2 f S2 l => ?_⟩⟩
      rw [lvOk_one] at l
      obtain ⟨us, h1, h2⟩ := S2.ob i _ l
      rw [f.old i r.1] at h1
      exact ⟨us, .inl (.inl h1), h2⟩
    · cases e
  · cases e
theorem isit_l {sc : Sc} {a : Addr} (h : HoldsAt K m n H sc .l a) : IsIt False K (Itl K a) m n H sc := by
  refine ⟨fun i H2 m2 st2 f S l hi => ?_, fun H2 m2 st2 f S l => ?_, fun i H2 m2 st2 v H3 f S l hi y => ?_⟩
  · obtain ⟨us, q, r⟩ := h.at' H2 m2 st2 f S l
    obtain ⟨v, hv, _⟩ := r.get (List.getElem?_eq_getElem hi)
    exact ⟨us, v, q, hv⟩
  · obtain ⟨us, q, r⟩ := h.at' H2 m2 st2 f S l
    exact ⟨us, q, Nat.le_of_eq r.len⟩
  · obtain ⟨us, q, r⟩ := h.at' H2 m2 st2 f S l
    obtain ⟨rfl, y⟩ := y
    obtain ⟨v', hv, rv⟩ := r.get (List.getElem?_eq_getElem hi)
    have := y us q
    rw [hv] at this
    cases this
    exact ⟨fun _ _ h => h, _, List.getElem?_eq_getElem hi, .inl rv⟩
theorem isit_t {sc : Sc} {a : Addr} (h : HoldsAt K m n H sc .t a) : IsIt False K (Itt K a) m n H sc := by
  refine ⟨fun i H2 m2 st2 f S l hi => ?_, fun H2 m2 st2 f S l => ?_, fun i H2 m2 st2 v H3 f S l hi y => ?_⟩
  · obtain ⟨us, q, r⟩ := h.at' H2 m2 st2 f S l
    obtain ⟨v, hv, _⟩ := r.get (List.getElem?_eq_getElem hi)
    exact ⟨us, v, q, hv⟩
  · obtain ⟨us, q, r⟩ := h.at' H2 m2 st2 f S l
    exact ⟨us, q, Nat.le_of_eq r.len⟩
  · obtain ⟨us, q, r⟩ := h.at' H2 m2 st2 f S l
    obtain ⟨rfl, y⟩ := y
    obtain ⟨v', hv, rv⟩ := r.get (List.getElem?_eq_getElem hi)
    have := y us q
    rw [hv] at this
    cases this
    exact ⟨fun _ _ h => h, _, List.getElem?_eq_getElem hi, .inl rv⟩
theorem isit_s {x : Str} : IsIt False K (Its x) m n H ⟨x.cps.toList.map sgnD, []⟩ := by
  refine ⟨fun i H2 m2 st2 f S l hi => by show i < x.cps.size; simpa using hi, fun H2 m2 st2 f S l => by show x.cps.size ≤ _; simp, fun i H2 m2 st2 v H3 f S l hi y => ?_⟩
  obtain ⟨rfl, c, hc, rfl⟩ := y
  exact ⟨fun _ _ h => h, sgnD c, by simp [hc], .inl (.str _)⟩
/-! ### a dict's keys -/
theorem rp_key {Z : Addr → Prop} {c : PyData} {k : Key} (h : keyD c = some k) : Rp K H Z (kV k) c := by
  cases c <;> first | (cases h; first | exact .int _ | exact .str _) | cases h
theorem rp_keys {Z : Addr → Prop} : ∀ {ds : List PyData} {ks : List Key}, keysD ds = some ks → RpA K H Z (ks.map kV) ds
  | [], _, e => by cases e; exact .nil
  | d :: ds, _, e => by
    unfold keysD at e
    split at e
    · rename_i k0 ks e1 e2
      cases e
      exact .cons (rp_key e1) (rp_keys e2)
    · cases e
theorem RpK.at' {Z : Addr → Prop} : ∀ {kvs : List (Key × V)} {es : List (PyData × PyData)} {i : Nat} {k : Key} {v : V}, RpK K H Z kvs es → kvs[i]? = some (k, v) → ∃ c d, es[i]? = some (c, d) ∧ keyD c = some k ∧ Rp K H Z v d
  | _, _, _, _, _, .nil, e => by simp at e
  | _, _, 0, _, _, .cons h0 h1 _, e => by simp at e; obtain ⟨rfl, rfl⟩ := e; exact ⟨_, _, rfl, h0, h1⟩
  | _, _, i + 1, _, _, .cons _ _ h2, e => by simpa using RpK.at' h2 (i := i) (by simpa using e)
theorem RpT.at' {Z : Addr → Prop} : ∀ {kvs : List (List Key × V)} {es : List (PyData × PyData)} {i : Nat} {k : List Key} {v : V}, RpT K H Z kvs es → kvs[i]? = some (k, v) → ∃ c d, es[i]? = some (c, d) ∧ tkD c = some k ∧ Rp K H Z v d
  | _, _, _, _, _, .nil, e => by simp at e
  | _, _, 0, _, _, .cons h0 h1 _, e => by simp at e; obtain ⟨rfl, rfl⟩ := e; exact ⟨_, _, rfl, h0, h1⟩
  | _, _, i + 1, _, _, .cons _ _ h2, e => by simpa using RpT.at' h2 (i := i) (by simpa using e)
theorem isit_k {a : Addr} {o : Obj} {kvs : List (Key × V)} {es : List (PyData × PyData)} (ha : H a = some (.frz o (.dK kvs))) {Z : Addr → Prop} (h : RpK K H Z kvs es) : IsIt False K (Itk a o kvs) m n H ⟨es.map (·.1), []⟩ := by
  have hl : kvs.length = es.length := h.len
  refine ⟨fun i H2 m2 st2 f S l hi => ⟨f.frz _ _ _ ha, by simpa [hl] using hi⟩, fun H2 m2 st2 f S l => ⟨f.frz _ _ _ ha, by simp [hl]⟩, fun i H2 m2 st2 v H3 f S l hi y => ?_⟩
  obtain ⟨rfl, k, v', e, rfl⟩ := y
  obtain ⟨c, d, e1, e2, _⟩ := h.at' e
  exact ⟨fun _ _ h => h, c, by simp [e1], .inl (rp_key e2)⟩
theorem kF_no {K : Frg} {H : Hp} {Z : Addr → Prop} {kvs : List (List Key × V)} {es : List (PyData × PyData)} {i : Nat} {k : List Key} {v : V} (h : RpT K H Z kvs es) (hk : kF es = true) (e : kvs[i]? = some (k, v)) : Wtp.F = false := by
  obtain ⟨c, d, e1, e2, _⟩ := h.at' e
  unfold kF at hk
  cases hF : Wtp.F
  · rfl
  · simp only [hF, Bool.not_true, Bool.false_or] at hk
    have := List.all_eq_true.mp hk _ (List.mem_of_getElem? e1)
    cases c <;> first | (simp [keyD] at this; done) | cases e2
theorem isit_kt {a : Addr} {o : Obj} {kvs : List (List Key × V)} {es : List (PyData × PyData)} (ha : H a = some (.frz o (.dT kvs))) {Z : Addr → Prop} (h : RpT K H Z kvs es) (hF : ∀ (i : Nat) (k : List Key) (v : V), kvs[i]? = some (k, v) → Wtp.F = false) : IsIt False K (Itkt a o kvs) m n H ⟨es.map (·.1), []⟩ := by
  have hl : kvs.length = es.length := h.len
  refine ⟨fun i H2 m2 st2 f S l hi => ⟨f.frz _ _ _ ha, by simpa [hl] using hi⟩, fun H2 m2 st2 f S l => ⟨f.frz _ _ _ ha, by simp [hl]⟩, fun i H2 m2 st2 v H3 f S l hi y => ?_⟩
  obtain ⟨rfl, k, v', q, e, rfl, hq⟩ := y
  obtain ⟨c, d, e1, e2, _⟩ := h.at' e
  refine ⟨fun _ _ h => h, c, by simp [e1], ?_⟩
  cases c with
  | tuple ds => exact .inl (.tup (.inl ⟨hF _ _ _ e, hq⟩) (rp_keys e2))
  | _ => cases e2
theorem isit_r {lo : Int} {c : Nat} : IsIt False K (Itr lo c) m n H ⟨rangeD lo c, []⟩ := by
  refine ⟨fun i H2 m2 st2 f S l hi => by show i < c; simpa [rangeD] using hi, fun H2 m2 st2 f S l => by show c ≤ _; simp [rangeD], fun i H2 m2 st2 v H3 f S l hi y => ?_⟩
  obtain ⟨rfl, rfl⟩ := y
  exact ⟨fun _ _ h => h, .int (lo + (i : Nat)), by
    have hi : i < c := by simpa [rangeD] using hi
    simp [rangeD, hi], .inl (.int _)⟩
theorem isit_z {sc sd : Sc} {a b : Addr} {p q : Kd} (h : HoldsAt K m n H sc p a) (h' : HoldsAt K m n H sd q b) : IsIt True K (JZ K p q a b) m n H ⟨List.zipWith pairD sc.xs sd.xs, sc.lv ++ sd.lv⟩ := by
  have hl : (List.zipWith pairD sc.xs sd.xs).length = min sc.xs.length sd.xs.length := List.length_zipWith
  refine ⟨fun i H2 m2 st2 f S l hi => ?_, fun H2 m2 st2 f S l => ?_, fun i H2 m2 st2 v H3 f S l hi y => ?_⟩
  · rw [show lvOk _ st2 = _ from lvOk_app _ _ _] at l
    obtain ⟨us, q, r⟩ := h.at' H2 m2 st2 f S l.1
    obtain ⟨us', q', r'⟩ := h'.at' H2 m2 st2 f S l.2
    have hi : i < min sc.xs.length sd.xs.length := hl ▸ hi
    obtain ⟨v, hv, _⟩ := r.get (List.getElem?_eq_getElem (show i < sc.xs.length by omega))
    obtain ⟨v', hv', _⟩ := r'.get (List.getElem?_eq_getElem (show i < sd.xs.length by omega))
    exact ⟨us, us', v, v', q, q', hv, hv'⟩
  · rw [show lvOk _ st2 = _ from lvOk_app _ _ _] at l
    obtain ⟨us, q, r⟩ := h.at' H2 m2 st2 f S l.1
    obtain ⟨us', q', r'⟩ := h'.at' H2 m2 st2 f S l.2
    exact ⟨us, us', q, q', by rw [r.len, r'.len]; exact hl⟩
  · rw [show lvOk _ st2 = _ from lvOk_app _ _ _] at l
    obtain ⟨us, q, r⟩ := h.at' H2 m2 st2 f S l.1
    obtain ⟨us', q', r'⟩ := h'.at' H2 m2 st2 f S l.2
    have hi : i < min sc.xs.length sd.xs.length := hl ▸ hi
    have i1 : i < sc.xs.length := by omega
    have i2 : i < sd.xs.length := by omega
    obtain ⟨T, x, x', rfl, hn, rfl, y, y'⟩ := y
    obtain ⟨v, hv, rv⟩ := r.get (List.getElem?_eq_getElem i1)
    obtain ⟨v', hv', rv'⟩ := r'.get (List.getElem?_eq_getElem i2)
    have e := y us q
    rw [hv] at e
    cases e
    have e := y' us' q'
    rw [hv'] at e
    cases e
    have g := grow_upd (o := .tup [x, x']) hn
    have kp := (Fol.same (m := m2) (n := st2.length) g).kp (K := K)
    exact ⟨g, pairD sc.xs[i] sd.xs[i], by simp [List.getElem?_zipWith, i1, i2], .inr ⟨trivial, _, _, _, rfl, rfl, .inl (.inl upd_same), .cons (rv.mv kp) (.cons (rv'.mv kp) .nil)⟩⟩
end
/-! ### the rules -/
section
variable {M : Md} {X : Cx} {B : Tb} {k : Nat} {pins : List (Addr × Obj)} {σ : L2.St} {H : Hp} {s : Shared} {m : Mp} {env : En} {st : Sto} {W : WX} {pos p : Pos} {tg : Expr}
theorem PI.imp {e : Expr} {t t' : TI} (h : PI X tg e t) (q : ∀ σ H R, t' σ H R → t σ H R) : PI X tg e t' := ⟨fun pins s σ H R I x => h.run pins s σ H R I (q σ H R x)⟩
theorem di_seq {e : Expr} {ce : En → Sto → Rs Wv} (he : DE X e ce) : DI X tg e (cSeq ce) := by
  refine ⟨fun W tk => ⟨fun pins s σ H R I ⟨m, env, st, S, Re, hp⟩ => ?_⟩⟩
  unfold cSeq at hp
  rw [Rs.post_bind] at hp
  cases ec : ce env st with
  | no => rw [ec] at hp; exact hp.elim
  | ex x st1 =>
    rw [ec] at hp
    exact (pi_list (he.pe W tk)).run pins s σ H R I ⟨m, env, st, S, Re, by rw [ec]; exact hp⟩
  | ok w st1 =>
    rw [ec] at hp
    simp only [Rs.post_ok] at hp
    split at hp
    · rename_i x
      refine (pi_str (he.pe W tk)).run pins s σ H R I ⟨m, env, st, S, Re, ?_⟩
      rw [ec]
      intro v H1 m1 f1 S1 r1
      cases r1
      exact ⟨x, rfl, hp _ H1 m1 f1 S1 isit_s⟩
    · rename_i es
      split at hp
      · rename_i hk
        refine (pi_keys (he.pe W tk)).run pins s σ H R I ⟨m, env, st, S, Re, ?_⟩
        rw [ec]
        intro v H1 m1 f1 S1 r1
        cases r1 with
        | dic h1 h2 => exact ⟨_, _, rfl, .inl ⟨_, h1, hp _ H1 m1 f1 S1 (isit_k h1 h2)⟩⟩
        | dit h1 h2 => exact ⟨_, _, rfl, .inr ⟨_, h1, hp _ H1 m1 f1 S1 (isit_kt h1 h2 (fun i k v e => kF_no h2 hk e))⟩⟩
      · exact hp.elim
    · split at hp
      · rename_i sc esc
        have key : ∀ v H1 m1, Fol m st.length H m1 st1.length H1 → Sim X.K H1 m1 st1 → RW X.K H1 m1 st1.length v w → ∃ a q, v = .ref a ∧ HoldsAt X.K m1 st1.length H1 sc q a := fun v H1 m1 f1 S1 r1 => seqW_at S1 r1 esc
        by_cases hq : ∃ xs, w = .d (.tuple xs)
        · obtain ⟨xs, rfl⟩ := hq
          cases esc
          refine (pi_tup (he.pe W tk)).run pins s σ H R I ⟨m, env, st, S, Re, ?_⟩
          rw [ec]
          intro v H1 m1 f1 S1 r1
          cases r1 with
          | tup h1 h2 => exact ⟨_, rfl, ⟨_, h1.sq⟩, hp _ H1 m1 f1 S1 (isit_t ⟨fun H2 m2 st2 f S2 _ => ⟨_, f.kp.sqt h1.sq, h2.mv f.kp⟩⟩)⟩
        · refine (pi_list (he.pe W tk)).run pins s σ H R I ⟨m, env, st, S, Re, ?_⟩
          rw [ec]
          intro v H1 m1 f1 S1 r1
          unfold seqW at esc
          split at esc
          · cases esc
            cases r1 with
            | lst h1 h2 => exact ⟨_, rfl, ⟨_, h1.sq⟩, hp _ H1 m1 f1 S1 (isit_l ⟨fun H2 m2 st2 f S2 _ => ⟨_, (f.kp.ls h1).sq, h2.mv f.kp⟩⟩)⟩
          · exact absurd ⟨_, rfl⟩ hq
          · split at esc
            · rename_i i _ _ _ xs e1
              cases esc
              obtain ⟨us, h1, h2⟩ := S1.ob i _ e1
              refine ⟨m1.ix i, r1.2, ⟨us, .inl (.inl h1)⟩, hp _ H1 m1 f1 S1 (isit_l ⟨fun H2 m2 st2 f S2 l => ?_⟩)⟩
              rw [lvOk_one] at l
              obtain ⟨us2, g1, g2⟩ := S2.ob i _ l
              rw [f.old i r1.1] at g1
              exact ⟨us2, .inl (.inl g1), g2⟩
            · cases esc
          · cases esc
      · exact hp.elim
theorem rws1 {K : Frg} {n : Nat} {vs : List V} {w : Wv} (h : RWs K H m n vs [w]) : ∃ v, vs = [v] ∧ RW K H m n v w := by
  cases h with | cons h1 h2 => cases h2; exact ⟨_, rfl, h1⟩
theorem rws2 {K : Frg} {n : Nat} {vs : List V} {w w' : Wv} (h : RWs K H m n vs [w, w']) : ∃ v v', vs = [v, v'] ∧ RW K H m n v w ∧ RW K H m n v' w' := by
  cases h with | cons h1 h2 => obtain ⟨v', rfl, h3⟩ := rws1 h2; exact ⟨_, v', rfl, h1, h3⟩
theorem rgOk_iff {i : Int} (h : rgOk i = true) : -(2 ^ 62) ≤ i ∧ i < 2 ^ 62 := by
  unfold rgOk at h
  simpa using h
theorem di_range1 (c : Cxt M X B k) {a : Expr} {cs : En → Sto → Rs (List Wv)} (j : Nat) (hg : B.gs[j]? = some ("range" : Str)) (hm : M.mg "range" = none) (ha : DA X [a] cs) (hs : starEach [a] X.env = [(false, eval a X.env)] := by rfl) : DI X tg (.Call (.Name "range" p) [a] [] pos) (cRg1 cs) := by
  refine ⟨fun W tk => PI.imp (pi_range1 (c.gl j _ hg) (by rw [c.mg]; exact hm) (ha.pa W tk) hs) fun σ H R ⟨m, env, st, S, Re, hp⟩ => ?_⟩
  unfold cRg1 at hp
  rw [Rs.post_bind] at hp
  refine ⟨m, env, st, S, Re, Rs.post_mono hp (fun ws st1 q vs H1 m1 f1 S1 r1 => ?_) fun _ _ q => q⟩
  split at q
  · rename_i i
    split at q
    · rename_i hi
      obtain ⟨h1, h2⟩ := rgOk_iff hi
      obtain ⟨v, rfl, r⟩ := rws1 r1
      cases r
      exact ⟨i, rfl, h1, h2, q _ H1 m1 f1 S1 isit_r⟩
    · exact q.elim
  · exact q.elim
end
end
section
variable [Wtp] [Tbl]
section
variable {M : Md} {X : Cx} {B : Tb} {k : Nat} {pins : List (Addr × Obj)} {σ : L2.St} {H : Hp} {s : Shared} {m : Mp} {env : En} {st : Sto} {W : WX} {pos p tpos : Pos} {elts : List Expr} {kk : Nat}
theorem HoldsAt.now {sc : Sc} {q : Kd} {a : Addr} (h : HoldsAt X.K m st.length H sc q a) (S : Sim X.K H m st) (l : lvOk sc.lv st) : ∃ us, q.sq X.K H a us := by
  obtain ⟨us, h1, _⟩ := h.at' H m st .refl S l
  exact ⟨us, h1⟩
theorem seqW_lv {w : Wv} {sc : Sc} (e : seqW w st = some sc) : lvOk sc.lv st := by
  unfold seqW at e
  split at e
  · cases e; simp
  · cases e; simp
  · split at e
    · cases e; rw [lvOk_one]; assumption
    · cases e
  · cases e
theorem here_lt {q : Kd} {a : Addr} {us : Array Value} (h : q.here s.heap a us) : a < s.heap.objs.size := by
  cases q <;> (obtain ⟨o, e, _⟩ := h; exact Heap.lt_size e)
theorem di_zip2 (c : Cxt M X B k) {e e2 : Expr} {cs : En → Sto → Rs (List Wv)} (j : Nat) (hg : B.gs[j]? = some ("zip" : Str)) (hm : M.mg "zip" = none) (ha : DA X [e, e2] cs)
    (hs : starEach [e, e2] X.env = (false, eval e X.env) :: starEach [e2] X.env := by rfl) (hpl : (backTo pos (starEach [e2] X.env)).any (·.1) = false := by rfl) :
    DIE True X (.Tuple elts kk tpos) (.Call (.Name "zip" p) [e, e2] [] pos) (cZip2 cs) := by
  refine ⟨fun W tk => ⟨fun pins s σ H R I ⟨m, env, st, S, Re, hp⟩ => ?_⟩⟩
  unfold cZip2 at hp
  rw [Rs.post_bind] at hp
  refine Call_ (ld_blt I (c.gl j _ hg) (by rw [c.mg]; exact hm) PyProof.Rows.boot_zip (PyProof.Rows.callWith_type1 (ha.go tk I S Re pos (Rs.post_mono hp (fun ws st1 q vs H1 m1 us s1 I1 rv f1 S1 r1 => ?_) fun _ _ q => q)) hs hpl))
  split at q
  · split at q
    · rename_i sc sd esc esd
      obtain ⟨v, v', rfl, r, r'⟩ := rws2 r1
      obtain ⟨a, kd, rfl, h⟩ := seqW_at S1 r esc
      obtain ⟨b, kd', rfl, h'⟩ := seqW_at S1 r' esd
      cases rv with
      | cons rv rn =>
        cases rn with
        | cons rv' rn =>
          cases rn
          cases rv
          cases rv'
          obtain ⟨xs, hx⟩ := h.now S1 (seqW_lv esc)
          obtain ⟨us, _, hu⟩ := Kd.of I1 hx
          obtain ⟨xs', hx'⟩ := h'.now S1 (seqW_lv esd)
          obtain ⟨us', _, hu'⟩ := Kd.of I1 hx'
          refine zip_begins2 (kd.begins a us.toArray) (kd'.begins b us'.toArray) hu hu' fun h'' hz hT hO i1 i2 _ hk => wpAny_pyIter_zip hz ?_
          have I2 : Inv X pins σ H1 { s1 with heap := h'' } := I1.kept (t' := s1.toks) hk
          refine ⟨s1.heap.objs.size + 4, [s1.heap.objs.size + 4, s1.heap.objs.size + 2, s1.heap.objs.size + 3, s1.heap.objs.size, s1.heap.objs.size + 1], _, _, H1, rfl, I2, turn_JZ kd kd' a b _ (here_lt hu) (here_lt hu'), ⟨hz, hT, ⟨_, _, hO⟩, Kd.first i1, Kd.first i2⟩, fun d hd => ?_, q _ H1 m1 f1 S1 (isit_z h h')⟩
          have le : s1.heap.objs.size ≤ d := by
            rcases (show d = s1.heap.objs.size + 4 ∨ d = s1.heap.objs.size + 2 ∨ d = s1.heap.objs.size + 3 ∨ d = s1.heap.objs.size ∨ d = s1.heap.objs.size + 1 by simpa using hd) with z | z | z | z | z <;> (rw [z]; first | exact Nat.le_add_right _ _ | exact Nat.le_refl _)
          exact I1.fpOk le (I1.hok.fresh le)
    · exact q.elim
  · exact q.elim
/-! ## comprehensions -/
/-- the parts of a comprehension, its names at vs -/
structure LcOk (E : Prop) (X : Cx) (elt tg iter : Expr) (ifs : List Expr) (scope : Scope) (own : List (Str × Nat)) (ci : En → Sto → Rs Sc) (g : Wv → En → Option En) (t : En → Sto → Rs Bool) (c : En → Sto → Rs Wv) : Prop where
  hi : DIE E X tg iter ci
  ok : BlkOk X.N X.env.scope scope own
  S0 : ∃ S0 : List Nat, (∀ i ∈ S0, i ∈ own.map (·.2)) ∧ ∀ (s : Shared) (H : Hp) (C : Addr) (cl : List (Str × Addr)) (fp : List Addr), DGE E (X.blk s H scope (compEnvC scope cl C X.env) fp) S0 tg g
  ht : ∀ (s : Shared) (H : Hp) (C : Addr) (cl : List (Str × Addr)) (fp : List Addr), DTs (X.blk s H scope (compEnvC scope cl C X.env) fp) ifs t
  he : ∀ (s : Shared) (H : Hp) (C : Addr) (cl : List (Str × Addr)) (fp : List Addr), DE (X.blk s H scope (compEnvC scope cl C X.env) fp) elt c
  hs : ∀ x, foldedSetIterable iter X.env x = pure x
theorem lc_ok {E : Prop} (cx : Cxt M X B k) {elt tg iter : Expr} {ifs : List Expr} {scope : Scope} {ci : En → Sto → Rs Sc} {g : Wv → En → Option En} {t : En → Sto → Rs Bool} {c : En → Sto → Rs Wv} (own : List (Str × Nat)) (us ls : List Nat) (gs cs : List Str)
    (hb : blkT B us ls gs cs scope own = true) (hi : DIE E X tg iter ci) (hS : (ls.all fun i => (own.map (·.2)).contains i) = true)
    (hg : ∀ X' : Cx, Cxt M X' (B.blk us ls gs cs) k → DGE E X' ls tg g) (ht : ∀ X' : Cx, Cxt M X' (B.blk us ls gs cs) k → DTs X' ifs t)
    (he : ∀ X' : Cx, Cxt M X' (B.blk us ls gs cs) k → DE X' elt c) (hs : ∀ x, foldedSetIterable iter X.env x = pure x := by intro _; rfl) : LcOk E X elt tg iter ifs scope own ci g t c :=
  ⟨hi, cx.blkOk hb, ⟨ls, fun i h => by simpa using (List.all_eq_true.mp hS) i h, fun s H C cl fp => hg _ (cx.blk hb s H C cl fp)⟩, fun s H C cl fp => ht _ (cx.blk hb s H C cl fp), fun s H C cl fp => he _ (cx.blk hb s H C cl fp), hs⟩
section
variable {elt tg iter : Expr} {ifs : List Expr} {scope : Scope} {own : List (Str × Nat)} {ci : En → Sto → Rs Sc} {g : Wv → En → Option En} {t : En → Sto → Rs Bool} {c : En → Sto → Rs Wv} {vs : List Nat}
theorem lcOk_tg {E : Prop} {S0 : List Nat} (h : ∀ (s : Shared) (H : Hp) (C : Addr) (cl : List (Str × Addr)) (fp : List Addr), DGE E (X.blk s H scope (compEnvC scope cl C X.env) fp) S0 tg g) :
    ∀ (s : Shared) (H : Hp) (C : Addr) (cl : List (Str × Addr)) (fp : List Addr), PG (X.blk s H scope (compEnvC scope cl C X.env) fp) tg (fun v σ H Q => ∃ m n env w env', RWe E X.K H m n v w ∧ EnvR X.K H m n env σ ∧ g w env = some env' ∧ ∀ σ', EnvR X.K H m n env' σ' → But S0 σ σ' → Q σ' H) :=
  fun s H C cl fp => (h s H C cl fp).pg
theorem lc_data {E : Prop} {Q : VK} {σ : L2.St} {S0 : List Nat} {tgt : TG} (hS : ∀ i ∈ S0, i ∈ vs)
    (htg : ∀ v σ H Q, (∃ m n env w env', RWe E X.K H m n v w ∧ EnvR X.K H m n env σ ∧ g w env = some env' ∧ ∀ σ', EnvR X.K H m n env' σ' → But S0 σ σ' → Q σ' H) → tgt v σ H Q) (h : tE X W (eLc ci g t c vs) σ H Q) : tLc (tI E X W ci) tgt (tT X Wno t) (tE X Wno c) vs σ H Q := by
  obtain ⟨m, env, st, S, R, hp⟩ := h
  unfold eLc at hp
  rw [Rs.post_bind] at hp
  refine lc_tLc hS htg S R (Rs.post_mono hp (fun ys st1 q D H1 m1 xs hD f1 S1 F1 hx r1 => ?_) fun _ _ q => q)
  have kp : Kp X.K H1 (Off m1 st1.length) H1 (Off (m1.done D) st1.length) := ⟨fun _ _ h => h, fun _ _ _ h => h, fun a o _ h z => ⟨h, off_done a z⟩⟩
  exact q _ H1 (m1.done D) f1 (S1.sub rfl fun a z => z.1) (.lst (.inl ⟨hx, fun i hi e => S1.fi i hi (by rw [show m1.ix i = D from e]; exact F1), fun z => z.2 rfl⟩) (r1.mv kp))
theorem de_lc {E : Prop} (cx : Cxt M X B k) (h : LcOk E X elt tg iter ifs scope own ci g t c) : DE X (.ListComp elt [⟨tg, iter, ifs, 0⟩] scope pos) (eLc ci g t c (own.map (·.2))) := by
  obtain ⟨S0, hS, hg⟩ := h.S0
  exact ⟨fun W tk => PE.imp (pe_lc (wi := tI E X W ci) (tt := tT X Wno t) (te := tE X Wno c) cx.calm (by rw [cx.hN]; exact cx.nd) (h.hi.pi W tk) h.ok (lcOk_tg hg) (fun s H C cl fp => (h.ht s H C cl fp).pts Wno takes_no) (fun s H C cl fp => (h.he s H C cl fp).pe Wno takes_no) h.hs) fun σ H Q q => lc_data hS (fun _ _ _ _ z => z) q⟩
end
end
end
section
variable [Wtp] [Tbl]
/-! ## a def and its calls -/
/-- what goes out of a def, the store's newer part being dropped -/
def frzW (n : Nat) (st : Sto) (w : Wv) : Option PyData := match w with
  | .d x => some x
  | .r i => if n ≤ i then match st[i]? with
    | some (.lst xs) => some (.list xs)
    | some (.dct es) => some (.dict es)
    | some (.dtt es) => some (.dict es)
    | some (.lkd es) => some (.dict es)
    | some (.lkl xs) => some (.list xs)
    | some (.ins _ _) => none
    | none => none
    else none
  | .x _ _ _ => none
def frzA (n : Nat) (st : Sto) : List Wv → Option (List PyData)
  | [] => some []
  | w :: r => match frzW n st w, frzA n st r with
    | some x, some xs => some (x :: xs)
    | _, _ => none
def endR (n : Nat) (st : Sto) : Rt → Rs Wv
  | .w (.d x) => .ok (.d x) (st.take n)
  | .w (.x _ _ _) => .no
  | .w (.r i) => if i < n then .ok (.r i) (st.take n) else match st[i]? with
    | some o => .ok (.r n) (st.take n ++ [o])
    | none => .no
  | .f w => match frzW n st w with
    | some x => .ok (.d x) (st.take n)
    | none => .no
  | .ft ws => match frzA n st ws with
    | some xs => .ok (.d (.tuple xs)) (st.take n)
    | none => .no
def endS (n : Nat) : SR → Rs Wv
  | .nx _ st => .ok (.d .none) (st.take n)
  | .rt p st => endR n st p
  | .ex e st => .ex e (st.take n)
  | .no => .no
/-- a def of np parameters and N names, by its body -/
def mkF (np N : Nat) (body : En → Sto → SR) : List Wv → Sto → Rs Wv := fun ws st => if ws.length = np then endS st.length (body (ws.map some ++ List.replicate (N - ws.length) none) st) else .no
structure Fnk (M : Md) (g : Bool) (k : Nat) (f : Addr) (fd : FuncData) (ps : List Str) (mf : List Wv → Sto → Rs Wv) : Prop where
  len : ∀ ws st Q E, (mf ws st).post Q E → ws.length = ps.length
  run : ∀ (A : Around) (outer : List Env) (s : Shared) (H : Hp) (args : Args) (us : List Value) (vs : List V) (ws : List Wv) (m : Mp) (st : Sto) (Q : VK) (E : XK), Room k A → (g = true → A.guards = some []) → Env0 M.P M.w M.K M.mg M.base A outer s H → BindsTo s fd args (ps.zip us) → Vals vs us →
    Sim M.K H m st → RWs M.K H m st.length vs ws →
    (mf ws st).post (fun w st' => ∀ v H' m', Fol m st.length H m' st'.length H' → Sim M.K H' m' st' → RW M.K H' m' st'.length v w → Q v H') (fun e st' => ∀ c d H' m', Fol m st.length H m' st'.length H' → Sim M.K H' m' st' → ExR M.K M.mg H' m' st'.length e c d → E c d H') →
    codeAny (model M.P M.w) A (.call (.ref f) args) (CR (L2.CX M.P M.w) outer M.P M.w H s Q E) s
theorem Fnk.mono {M : Md} {g : Bool} {j k : Nat} {f : Addr} {fd : FuncData} {ps : List Str} {mf : List Wv → Sto → Rs Wv} (F : Fnk M g j f fd ps mf) (h : j ≤ k) : Fnk M g k f fd ps mf :=
  ⟨F.len, fun A outer s H args us vs ws m st Q E hr => F.run A outer s H args us vs ws m st Q E (hr.mono h)⟩
section
variable {K : Frg} {H H' : Hp} {m m' : Mp} {st : Sto} {n n' : Nat}
theorem off_le {a : Addr} (h : n ≤ n') (z : Off m n' a) : Off m n a := ⟨fun i hi => z.1 i (Nat.lt_of_lt_of_le hi h), z.2⟩
theorem Kp.le (h : n ≤ n') : Kp K H (Off m n') H (Off m n) := ⟨fun _ _ q => q, fun _ _ _ q => q, fun a o _ q z => ⟨q, off_le h z⟩⟩
theorem Sim.take (S : Sim K H m st) (h : n ≤ st.length) : Sim K H m (st.take n) := by
  have hl : (st.take n).length = n := by rw [List.length_take]; omega
  refine ⟨fun i o e => ?_, fun i j hi hj => S.inj i j (by omega) (by omega), S.ff, fun i hi => S.fi i (by omega), S.tb⟩
  have hi : i < n := by have := (List.getElem?_eq_some_iff.mp e).1; omega
  rw [List.getElem?_take_of_lt hi] at e
  have q := S.ob i o e
  rw [hl]
  cases o with
  | lst xs => obtain ⟨vs, h1, h2⟩ := q; exact ⟨vs, h1, h2.mv (.le h)⟩
  | dct kvs => obtain ⟨vs, h1, h2⟩ := q; exact ⟨vs, h1, RpK.kp (.le h) _ _ h2⟩
  | dtt kvs => obtain ⟨vs, h1, h2⟩ := q; exact ⟨vs, h1, RpT.kp (.le h) _ _ h2⟩
  | lkd es => exact Rp.mv q (.le h)
  | lkl xs => exact FzL.mv q (.le h)
  | ins C es => exact InAt.mv q (.le h) fun _ _ e => e
theorem Fol.back (f : Fol m n H m' n' H') : Fol m n H m' n H' := ⟨f.tup, f.frz, f.rest, f.old, fun i a b => absurd b (by omega), Nat.le_refl _, f.dom, f.eF⟩
/-- dicts at these places are pinned -/
def fzH (H : Hp) (as : List Addr) (os : Addr → Obj) : Hp := fun b => if b ∈ as then (match H b with
  | some (.dK ks) => some (.frz (os b) (.dK ks))
  | some (.dT ks) => some (.frz (os b) (.dT ks))
  | u => u) else H b
theorem fz_nil (H : Hp) (os : Addr → Obj) : fzH H [] os = H := by funext b; unfold fzH; simp
theorem fz_out {H : Hp} {as : List Addr} {os : Addr → Obj} {b : Addr} (h : b ∉ as) : fzH H as os b = H b := if_neg h
theorem fz_dK {H : Hp} {as : List Addr} {os : Addr → Obj} {b : Addr} {ks : List (Key × V)} (hb : b ∈ as) (h : H b = some (.dK ks)) : fzH H as os b = some (.frz (os b) (.dK ks)) := by unfold fzH; rw [if_pos hb, h]
theorem fz_dT {H : Hp} {as : List Addr} {os : Addr → Obj} {b : Addr} {ks : List (List Key × V)} (hb : b ∈ as) (h : H b = some (.dT ks)) : fzH H as os b = some (.frz (os b) (.dT ks)) := by unfold fzH; rw [if_pos hb, h]
theorem fz_same {H : Hp} {as : List Addr} {os : Addr → Obj} {b : Addr} {u : HO} (h : H b = some u) (h1 : ∀ ks, u ≠ .dK ks) (h2 : ∀ ks, u ≠ .dT ks) : fzH H as os b = some u := by
  unfold fzH
  split
  · rw [h]
    split
    · rename_i ks e; exact absurd (Option.some.inj e) (h1 ks)
    · rename_i ks e; exact absurd (Option.some.inj e) (h2 ks)
    · rfl
  · exact h
theorem fz_nn {H : Hp} {as : List Addr} {os : Addr → Obj} {b : Addr} (h : Nn H b) : Nn (fzH H as os) b := by
  obtain ⟨u, e, nt⟩ := h
  by_cases hk : (∃ ks, u = .dK ks) ∨ ∃ ks, u = .dT ks
  · by_cases hb : b ∈ as
    · rcases hk with ⟨ks, rfl⟩ | ⟨ks, rfl⟩
      · exact ⟨_, fz_dK hb e, fun _ z => nomatch z⟩
      · exact ⟨_, fz_dT hb e, fun _ z => nomatch z⟩
    · exact ⟨u, (fz_out hb).trans e, nt⟩
  · exact ⟨u, fz_same e (fun ks z => hk (.inl ⟨ks, z⟩)) (fun ks z => hk (.inr ⟨ks, z⟩)), nt⟩
theorem fz_tabs {T : List (Addr × Str)} {H : Hp} {as : List Addr} {os : Addr → Obj} (t : LamX.Tabs T H) : LamX.Tabs T (fzH H as os) := fun p hp => by
  obtain ⟨ps, h1, h2, h3⟩ := t p hp
  refine ⟨ps, fz_same h1 (fun _ z => nomatch z) (fun _ z => nomatch z), h2, fun pos cv hc => ?_⟩
  obtain ⟨c, e, hq⟩ := h3 pos cv hc
  exact ⟨c, e, fz_same hq (fun _ z => nomatch z) (fun _ z => nomatch z)⟩
theorem fz_kp {H : Hp} {as : List Addr} {os : Addr → Obj} {Z Z' : Addr → Prop} (h : ∀ a, Z a → Z' a) : Kp K H Z (fzH H as os) Z' :=
  ⟨fun a xs e => fz_same e (fun _ z => nomatch z) (fun _ z => nomatch z), fun a o u e => fz_same e (fun _ z => nomatch z) (fun _ z => nomatch z), fun a o ⟨xs, ho⟩ e z => ⟨by subst ho; exact fz_same e (fun _ z => nomatch z) (fun _ z => nomatch z), h a z⟩⟩
theorem freezeAll {X : Cx} {pins : List (Addr × Obj)} {σ : L2.St} {s : Shared} (I : Inv X pins σ H s) : ∀ as : List Addr, ∃ os, Inv X pins σ (fzH H as os) s
  | [] => ⟨fun _ => { cls := .none, data := .plain }, by rw [fz_nil]; exact I⟩
  | a :: as => by
    obtain ⟨os, J⟩ := freezeAll I as
    by_cases ha : a ∈ as
    · refine ⟨os, ?_⟩
      rw [show fzH H (a :: as) os = fzH H as os from by
        funext b
        unfold fzH
        by_cases hb : b ∈ as
        · rw [if_pos (List.mem_cons_of_mem _ hb), if_pos hb]
        · rw [if_neg hb, if_neg (fun z => by rcases List.mem_cons.mp z with rfl | z <;> contradiction)]]
      exact J
    · have go : ∀ u, H a = some u → ((∃ ks, u = .dK ks) ∨ ∃ ks, u = .dT ks) → ∃ os, Inv X pins σ (fzH H (a :: as) os) s := fun u e hu => by
        obtain ⟨o, J2⟩ := Inv.freeze J (a := a) (u := u) (by rw [fz_out ha]; exact e) hu
        refine ⟨fun b => if b = a then o else os b, ?_⟩
        rw [show fzH H (a :: as) (fun b => if b = a then o else os b) = upd (fzH H as os) a (.frz o u) from by
          funext b
          by_cases hb : b = a
          · subst hb
            rw [upd_same]
            rcases hu with ⟨ks, rfl⟩ | ⟨ks, rfl⟩
            · rw [fz_dK (List.mem_cons_self ..) e, if_pos rfl]
            · rw [fz_dT (List.mem_cons_self ..) e, if_pos rfl]
          · rw [upd_ne hb]
            unfold fzH
            by_cases hb2 : b ∈ as
            · rw [if_pos (List.mem_cons_of_mem _ hb2), if_pos hb2]
              split <;> simp_all
            · rw [if_neg hb2, if_neg (fun z => by rcases List.mem_cons.mp z with rfl | z <;> contradiction)]]
        exact J2
      by_cases hk : ∃ u, H a = some u ∧ ((∃ ks, u = .dK ks) ∨ ∃ ks, u = .dT ks)
      · obtain ⟨u, e, hu⟩ := hk
        exact go u e hu
      · refine ⟨os, ?_⟩
        rw [show fzH H (a :: as) os = fzH H as os from by
          funext b
          by_cases hb : b = a
          · subst hb
            rw [fz_out ha]
            cases e : H b with
            | none => unfold fzH; rw [if_pos (List.mem_cons_self ..), e]
            | some u => exact fz_same e (fun ks z => hk ⟨u, e, .inl ⟨ks, z⟩⟩) (fun ks z => hk ⟨u, e, .inr ⟨ks, z⟩⟩)
          · unfold fzH
            by_cases hb2 : b ∈ as
            · rw [if_pos (List.mem_cons_of_mem _ hb2), if_pos hb2]
            · rw [if_neg hb2, if_neg (fun z => by rcases List.mem_cons.mp z with rfl | z <;> contradiction)]]
        exact J
def asOf (m : Mp) : Wv → List Addr
  | .r i => [m.ix i]
  | _ => []
/-- only what is newer than n is pinned -/
def AsNew (m : Mp) (n n' : Nat) (as : List Addr) : Prop := ∀ a ∈ as, ∃ i, n ≤ i ∧ i < n' ∧ m.ix i = a
theorem rw_frz {v : V} {w : Wv} {x : PyData} {as : List Addr} {os : Addr → Obj} (S : Sim K H m st) (hn : n ≤ st.length) (r : RW K H m st.length v w) (e : frzW n st w = some x) (ha : ∀ a ∈ asOf m w, a ∈ as) : Rp K (fzH H as os) (Off m n) v x := by
  have kp : Kp K H (Off m st.length) (fzH H as os) (Off m n) := fz_kp fun a z => off_le hn z
  unfold frzW at e
  split at e
  · cases e; exact Rp.mv r kp
  · rename_i i
    split at e
    · rename_i hi
      have hz : Off m n (m.ix i) := ⟨fun j hj q => by have := S.inj j i (by omega) r.1 q; omega, S.fi i r.1⟩
      rw [r.2]
      split at e
      · rename_i xs e1
        cases e
        obtain ⟨vs, h1, h2⟩ := S.ob i _ e1
        exact .lst (.inl ⟨fz_same h1 (fun _ z => nomatch z) (fun _ z => nomatch z), hz⟩) (h2.mv kp)
      · rename_i es e1
        cases e
        obtain ⟨vs, h1, h2⟩ := S.ob i _ e1
        exact .dic (fz_dK (ha _ (by simp [asOf])) h1) (RpK.kp kp _ _ h2)
      · rename_i es e1
        cases e
        obtain ⟨vs, h1, h2⟩ := S.ob i _ e1
        exact .dit (fz_dT (ha _ (by simp [asOf])) h1) (RpT.kp kp _ _ h2)
      · rename_i es e1
        cases e
        exact Rp.mv (show Rp K H (Off m st.length) (.ref (m.ix i)) (.dict es) from S.ob i _ e1) kp
      · rename_i xs e1
        cases e
        exact (FzL.mv (show FzL K H (Off m st.length) (m.ix i) xs from S.ob i _ e1) kp).rp
      · cases e
      · cases e
    · cases e
  · cases e
theorem rws_frz {as : List Addr} {os : Addr → Obj} : ∀ {vs : List V} {ws : List Wv} {xs : List PyData} (S : Sim K H m st) (hn : n ≤ st.length) (r : RWs K H m st.length vs ws) (e : frzA n st ws = some xs) (ha : ∀ a ∈ ws.flatMap (asOf m), a ∈ as), RpA K (fzH H as os) (Off m n) vs xs
  | _, _, _, S, hn, .nil, e, _ => by cases e; exact .nil
  | _, _, _, S, hn, .cons r1 r2, e, ha => by
    unfold frzA at e
    split at e
    · rename_i x xs e1 e2
      cases e
      exact .cons (rw_frz S hn r1 e1 fun a h => ha a (by simp [h])) (rws_frz S hn r2 e2 fun a h => ha a (by simp only [List.flatMap_cons, List.mem_append]; exact .inr h))
    · cases e
/-- the same without dicts of the store -/
def frzL (n : Nat) (st : Sto) (w : Wv) : Option PyData := match w with
  | .d x => some x
  | .r i => if n ≤ i then match st[i]? with
    | some (.lst xs) => some (.list xs)
    | _ => none
    else none
  | .x _ _ _ => none
theorem rl_frz {v : V} {w : Wv} {x : PyData} (S : Sim K H m st) (hn : n ≤ st.length) (r : RW K H m st.length v w) (e : frzL n st w = some x) : Rp K H (Off m n) v x := by
  unfold frzL at e
  split at e
  · cases e; exact Rp.mv r (.le hn)
  · rename_i i
    split at e
    · rename_i hi
      have hz : Off m n (m.ix i) := ⟨fun j hj q => by have := S.inj j i (by omega) r.1 q; omega, S.fi i r.1⟩
      rw [r.2]
      split at e
      · rename_i xs e1
        cases e
        obtain ⟨vs, h1, h2⟩ := S.ob i _ e1
        exact .lst (.inl ⟨h1, hz⟩) (h2.mv (.le hn))
      · cases e
    · cases e
  · cases e
def newA (n : Nat) (m : Mp) : Wv → List Addr
  | .r i => if n ≤ i then [m.ix i] else []
  | _ => []
theorem newA_new {n n' : Nat} {w : Wv} (h : ∀ i, w = .r i → i < n') : AsNew m n n' (newA n m w) := fun a ha => by
  cases w with
  | d x => cases ha
  | x a c d => cases ha
  | r i =>
    by_cases hi : n ≤ i
    · simp only [newA, if_pos hi, List.mem_singleton] at ha
      exact ⟨i, hi, h i rfl, ha.symm⟩
    · simp only [newA, if_neg hi] at ha
      cases ha
theorem newA_all {w : Wv} {x : PyData} (e : frzW n st w = some x) : ∀ a ∈ asOf m w, a ∈ newA n m w := fun a ha => by
  cases w with
  | d x => cases ha
  | x a c d => cases ha
  | r i =>
    by_cases hi : n ≤ i
    · simp only [newA, if_pos hi]; exact ha
    · simp only [frzW, if_neg hi] at e
      cases e
theorem newAs_new {n n' : Nat} : ∀ {vs : List V} {ws : List Wv}, RWs K H m n' vs ws → AsNew m n n' (ws.flatMap (newA n m))
  | _, _, .nil => fun a ha => by cases ha
  | _, _, .cons r1 r2 => fun a ha => by
    rw [List.flatMap_cons, List.mem_append] at ha
    rcases ha with ha | ha
    · exact newA_new (fun i e => by subst e; exact r1.1) a ha
    · exact newAs_new r2 a ha
theorem frzA_mem : ∀ {ws : List Wv} {xs : List PyData}, frzA n st ws = some xs → ∀ w ∈ ws, ∃ x, frzW n st w = some x
  | [], _, _, w, hw => by cases hw
  | u :: r, xs, e, w, hw => by
    unfold frzA at e
    split at e
    · rename_i x ys e1 e2
      rcases List.mem_cons.mp hw with rfl | hw
      · exact ⟨x, e1⟩
      · exact frzA_mem e2 w hw
    · cases e
theorem Sim.fz' {as : List Addr} {os : Addr → Obj} (S : Sim K H m st) (h : n ≤ st.length) (hA : ∀ i, i < n → m.ix i ∉ as) : Sim K (fzH H as os) m (st.take n) := by
  have T := S.take h
  have hl : (st.take n).length = n := by rw [List.length_take]; omega
  have kp : Kp K H (Off m (st.take n).length) (fzH H as os) (Off m (st.take n).length) := fz_kp fun a z => z
  refine ⟨fun i o e => ?_, T.inj, fun a z => fz_nn (T.ff a z), T.fi, ?_⟩
  · have hi : i < n := by have := (List.getElem?_eq_some_iff.mp e).1; omega
    have no : m.ix i ∉ as := hA i hi
    have q := T.ob i o e
    cases o with
    | lst xs => obtain ⟨vs, h1, h2⟩ := q; exact ⟨vs, by rw [fz_out no]; exact h1, h2.mv kp⟩
    | dct kvs => obtain ⟨vs, h1, h2⟩ := q; exact ⟨vs, by rw [fz_out no]; exact h1, RpK.kp kp _ _ h2⟩
    | dtt kvs => obtain ⟨vs, h1, h2⟩ := q; exact ⟨vs, by rw [fz_out no]; exact h1, RpT.kp kp _ _ h2⟩
    | lkd es => exact Rp.mv q kp
    | lkl xs => exact FzL.mv q kp
    | ins C es => exact InAt.mv q kp fun _ _ e => by rw [fz_out no]; exact e
  · exact fz_tabs T.tb
theorem Sim.fz {as : List Addr} {os : Addr → Obj} (S : Sim K H m st) (h : n ≤ st.length) (hA : AsNew m n st.length as) : Sim K (fzH H as os) m (st.take n) := S.fz' h fun i hi z => by
  obtain ⟨j, h1, h2, h3⟩ := hA _ z
  have := S.inj j i h2 (by omega) h3
  omega
theorem Fol.fz {as : List Addr} {os : Addr → Obj} (f : Fol m n H m' n' H') (hA : AsNew m' n n' as) : Fol m n H m' n' (fzH H' as os) := by
  have no : ∀ {a}, Nn H a → a ∉ as := fun {a} h z => by
    obtain ⟨i, h1, h2, h3⟩ := hA _ z
    exact f.new i h1 h2 (h3 ▸ h)
  exact ⟨fun a xs e => fz_same (f.tup a xs e) (fun _ z => nomatch z) (fun _ z => nomatch z), fun a o u e => fz_same (f.frz a o u e) (fun _ z => nomatch z) (fun _ z => nomatch z), fun a o nt e z => by rw [fz_out (no ⟨o, e, nt⟩)]; exact f.rest a o nt e z, f.old, f.new, f.le, fun a h => fz_nn (f.dom a h), f.eF⟩
/-- a newer object becomes the next one -/
theorem Sim.keep1 {i : Nat} {o : Ob} (S : Sim K H m st) (hn : n ≤ i) (e : st[i]? = some o) : Sim K H (mup m n (m.ix i)) (st.take n ++ [o]) := by
  have hi : i < st.length := (List.getElem?_eq_some_iff.mp e).1
  have hl : (st.take n).length = n := by rw [List.length_take]; omega
  have hl2 : (st.take n ++ [o]).length = n + 1 := by simp [hl]
  have hx : ∀ j, j < n → m.ix j ≠ m.ix i := fun j hj q => by have := S.inj j i (by omega) hi q; omega
  have kp : Kp K H (Off m st.length) H (Off (mup m n (m.ix i)) (n + 1)) := ⟨fun _ _ q => q, fun _ _ _ q => q, fun a o _ q z => ⟨q, fun j hj e2 => by
    by_cases q : j < n
    · rw [mup_old q] at e2; exact z.1 j (by omega) e2
    · rw [show j = n by omega, mup_new] at e2; exact z.1 i hi e2
  , z.2⟩⟩
  refine ⟨fun j u e2 => ?_, fun j l hj hk e2 => ?_, S.ff, fun j hj => ?_, S.tb⟩
  · rw [hl2]
    by_cases q : j < n
    · rw [List.getElem?_append_left (by omega), List.getElem?_take_of_lt q] at e2
      have h := S.ob j u e2
      rw [mup_old q]
      cases u with
      | lst xs => obtain ⟨vs, h1, h2⟩ := h; exact ⟨vs, h1, h2.mv kp⟩
      | dct kvs => obtain ⟨vs, h1, h2⟩ := h; exact ⟨vs, h1, RpK.kp kp _ _ h2⟩
      | dtt kvs => obtain ⟨vs, h1, h2⟩ := h; exact ⟨vs, h1, RpT.kp kp _ _ h2⟩
      | lkd es => exact Rp.mv h kp
      | lkl xs => exact FzL.mv h kp
      | ins C es => exact InAt.mv h kp fun _ _ e => e
    · have ej : j = n := by have := (List.getElem?_eq_some_iff.mp e2).1; omega
      subst ej
      rw [List.getElem?_append_right (by omega), hl] at e2
      simp at e2
      subst e2
      rw [mup_new]
      have h := S.ob i o e
      cases o with
      | lst xs => obtain ⟨vs, h1, h2⟩ := h; exact ⟨vs, h1, h2.mv kp⟩
      | dct kvs => obtain ⟨vs, h1, h2⟩ := h; exact ⟨vs, h1, RpK.kp kp _ _ h2⟩
      | dtt kvs => obtain ⟨vs, h1, h2⟩ := h; exact ⟨vs, h1, RpT.kp kp _ _ h2⟩
      | lkd es => exact Rp.mv h kp
      | lkl xs => exact FzL.mv h kp
      | ins C es => exact InAt.mv h kp fun _ _ e => e
  · rw [hl2] at hj hk
    by_cases q : j < n
    · by_cases q2 : l < n
      · rw [mup_old q, mup_old q2] at e2; exact S.inj j l (by omega) (by omega) e2
      · rw [mup_old q, show l = n by omega, mup_new] at e2; exact absurd e2 (hx j q)
    · by_cases q2 : l < n
      · rw [show j = n by omega, mup_new, mup_old q2] at e2; exact absurd e2.symm (hx l q2)
      · omega
  · rw [hl2] at hj
    by_cases q : j < n
    · rw [mup_old q]; exact S.fi j (by omega)
    · rw [show j = n by omega, mup_new]; exact S.fi i hi
theorem Fol.keep1 {i : Nat} (f : Fol m n H m' n' H') (hi : n ≤ i) (hi2 : i < n') : Fol m n H (mup m' n (m'.ix i)) (n + 1) H' where
  tup := f.tup
  frz := f.frz
  rest := f.rest
  old j hj := by rw [mup_old hj]; exact f.old j hj
  new j h1 h2 := by rw [show j = n by omega, mup_new]; exact f.new i hi hi2
  le := Nat.le_succ n
  dom := f.dom
  eF := f.eF
end
/-- what a scope must tell -/
def fnT (B : Tb) (sc : Scope) : Bool :=
  (B.us.all fun i => match B.N[i]? with | some x => kdV (sc.names.lookup x) | none => true) &&
  ((B.ls.all fun i => match B.N[i]? with | some x => kdL (sc.names.lookup x) | none => true) &&
  ((B.ps.all fun i => match B.N[i]? with | some x => decide (sc.names.lookup x = some .local) | none => true) &&
  ((B.gs.all fun x => kdG (sc.names.lookup x)) && ((B.cs.all fun x => kdC (sc.names.lookup x)) && B.fn))))
theorem kdV_vis {sc : Scope} {x : Str} (h : kdV (sc.names.lookup x) = true) : Vis sc x := by
  unfold kdV at h
  split at h
  · exact .inl (by assumption)
  · exact .inr (.inl (by assumption))
  · exact .inr (.inr (by assumption))
  · cases h
theorem kdL_loc {sc : Scope} {x : Str} (h : kdL (sc.names.lookup x) = true) : Loc sc x := by
  unfold kdL at h
  split at h
  · exact .inl (by assumption)
  · exact .inr (by assumption)
  · cases h
theorem kdC_cap {sc : Scope} {x : Str} (h : kdC (sc.names.lookup x) = true) : sc.names.lookup x = some .cell ∨ sc.names.lookup x = some .free := by
  unfold kdC at h
  split at h
  · exact .inl (by assumption)
  · exact .inr (by assumption)
  · cases h
theorem kdG_gl {sc : Scope} {x : Str} (h : kdG (sc.names.lookup x) = true) : sc.names.lookup x = some .globalImplicit := by
  unfold kdG at h
  split at h
  · assumption
  · cases h
theorem SR.post_end {x : SR} {n : Nat} {Q : Wv → Sto → Prop} {E : Xc → Sto → Prop} (h : (endS n x).post Q E) : x.post (fun _ st => Q (.d .none) (st.take n)) (fun p st => (endR n st p).post Q E) (fun e st => E e (st.take n)) := by
  cases x with
  | nx env st => exact h
  | rt p st => exact h
  | ex e st => exact h
  | no => exact h
/-- a def, by its body -/
theorem fnk_of {M : Md} {B : Tb} {k : Nat} {f : Addr} {name qual : Str} {params : Arguments} {body : List Stmt} {scope : Scope} {dV kV doc pm cdv ct oc : Value} {an od : Option Addr} {osl : Array (Option Value)} {ps : List Str} {cb : En → Sto → SR} {np nN : Nat}
    (hf : M.K.lookup f = some ⟨oc, od, .func (PySem.W.fnOf name qual params body scope dV kV doc pm an cdv ct), osl⟩) (hcode : PySem.W.codeIn M.K cdv qual = true) (SC : FnScope B.N ps scope) (hT : fnT B scope = true) (hnp : ps.length = np) (hnN : B.N.length = nN)
    (hb : ∀ X : Cx, Cxt M X B k → DB X body cb) (hlam : ∀ q, B.lq = some q → (qual ++ ".<locals>.") ++ "<lambda>" = q ∧ LamC M.mg M.base q cdv := by intro _ h; exact nomatch (show (none : Option Str) = some _ from h)) : Fnk M B.gd (k + 1) f (PySem.W.fnOf name qual params body scope dV kV doc pm an cdv ct) ps (mkF np nN cb) := by
  have arity : ∀ ws st Q E, (mkF np nN cb ws st).post Q E → ws.length = ps.length := fun ws st Q E h => by
    unfold mkF at h
    split at h
    · rw [hnp]; assumption
    · exact h.elim
  refine ⟨arity, fun A outer s H args us vs ws m st Q E room guard e0 bound rv S rw0 hp => ?_⟩
  have hwl := arity _ _ _ _ hp
  have hvl : vs.length = ps.length := rw0.len.trans hwl
  have inK : M.K.In s.heap := e0.mod.kin.keeps fun b o e => (e0.bs b o e).1
  have noLim : s.heap.NoLimit := e0.mod.nolimit.keeps fun b o e => (e0.bs b o e).1
  have kinds : ∀ y ∈ ps.zip us, scope.names.lookup y.1 = some .local ∨ (scope.names.lookup y.1 = some .cell ∧ ((cellsFrom (s.heap.objs.size + 1) scope.names []).lookup y.1).isSome = true) := by
    rintro ⟨y, v⟩ hy
    have hy' := SC.par y (List.of_mem_zip hy).1
    exact hy'.imp id fun q => ⟨q, PySem.W.cellsFrom_some _ _ _ (.inl q)⟩
  refine codeAny_call_function room.depth (inK _ _ hf) rfl SC.co SC.gen rfl (PySem.W.codeRec_of inK hcode) (bound _ _ _ _ (wpAny_newFunctionEnv_cells SC.kind kinds fun env henv s1 x => ?_))
  subst henv
  refine ⟨noLim.keeps x.toInCall.keep, codeAny_func ?_⟩
  generalize hX : cxOf (L2.CX M.P M.w) M.P M.w M.K M.mg M.base B.N qual scope f cdv A outer s H E = X
  have hI : Inv X [] (start B.N vs) H s1 := by rw [← hX]; exact inv_start SC room.hd e0 hvl rv x
  unfold fnT at hT
  simp only [Bool.and_eq_true, List.all_eq_true, decide_eq_true_eq] at hT
  obtain ⟨t1, t2, t3, t4, t5, t6⟩ := hT
  have hC : Cxt M X B k := by
    subst hX
    refine ⟨rfl, rfl, rfl, rfl, rfl, rfl, SC.nd, rfl, fun _ => SC.kind, room.deeper _, guard, fun i hi x hx => ?_, fun i hi x hx => ?_, fun i hi x hx => ?_, fun j x hx => kdG_gl (t4 x (List.mem_of_getElem? hx)), fun x hx => kdC_cap (t5 x hx), fun _ => passes_of rfl, hlam, fun _ => ⟨rfl, rfl⟩⟩
    · have q := t1 i hi
      rw [hx] at q
      exact kdV_vis q
    · have q := t2 i hi
      rw [hx] at q
      exact ⟨kdL_loc q, .inl rfl⟩
    · have q := t3 i hi
      rw [hx] at q
      exact of_decide_eq_true q
  have tk : Takes X (fun c d _ H' => E c d H') := by subst hX; exact takes_of rfl rfl rfl rfl
  have hR : EnvR X.K H m st.length (ws.map some ++ List.replicate (nN - ws.length) none) (start B.N vs) := by
    refine ⟨?_, fun i w hw => ?_⟩
    · unfold L2.start; simp [rw0.len, hnN]
    · have hi : i < ws.length := by
        rcases Nat.lt_or_ge i ws.length with z | z
        · exact z
        · rw [List.getElem?_append_right (by simpa using z)] at hw
          have := List.mem_of_getElem? hw
          simp at this
      rw [List.getElem?_append_left (by simpa using hi)] at hw
      have get : ∀ {vs : List V} {ws : List Wv} {i : Nat} {w : Wv}, RWs M.K H m st.length vs ws → ws[i]? = some w → ∃ v, vs[i]? = some v ∧ RW M.K H m st.length v w := by
        intro vs ws i w r
        induction r generalizing i with
        | nil => intro e; simp at e
        | cons r1 _ ih =>
          intro e
          cases i with
          | zero => simp at e; subst e; exact ⟨_, rfl, r1⟩
          | succ i => simpa using ih (by simpa using e)
      obtain ⟨v, hv, r⟩ := get rw0 (i := i) (w := w) (by simpa [hi] using hw)
      refine ⟨v, ?_, by subst hX; exact r⟩
      unfold L2.start
      rw [List.getElem?_append_left (by have := (List.getElem?_eq_some_iff.mp hv).1; simpa using this)]
      simp [hv]
  have hK : X.K = M.K := hC.hK
  have hmg : X.mg = M.mg := hC.mg
  have run := ((hb X hC).pss _ tk).run [] s1 (start B.N vs) H { nx := fun _ H' => Q .non H', rt := fun v H' => ∃ as, ∀ os, Q v (fzH H' as os) } hI
  unfold mkF at hp
  rw [if_pos (hwl.trans hnp)] at hp
  have hp2 := SR.post_end hp
  have fin : ∀ {σ' : L2.St} {H' : Hp} {v : V} {u : Value} {s' : Shared}, Inv X [] σ' H' s' → RelV v u → Q v H' → CE outer M.P M.w H s Q u s' := fun {σ' H' v u s'} J rv q => by
    subst hX
    exact ⟨v, H', J.os, J.bare, J.base, J.hok, rv, q⟩
  have hA : X.A = A.deeper (envOfC qual scope s.heap.objs.size f cdv) := by rw [← hX]; rfl
  have hxe : ∀ e s', X.xe e s' = wpAny (model M.P M.w) (A.deeper (envOfC qual scope s.heap.objs.size f cdv)) (leaving (envOfC qual scope s.heap.objs.size f cdv) e) (fun _ s'' => L2.CX M.P M.w outer H s E e s'') (fun e' s'' => L2.CX M.P M.w outer H s E e' s'') s' := fun e s' => by rw [← hX]; rfl
  have run2 := run ⟨m, _, st, by rw [hK]; exact S, hR, SR.post_mono hp2 (fun env st' q σ' H' m' f S' _ => ?_) (fun p st' q v H' m' f S' r => ?_) fun e st' q c d σ' H' m' f S' r => ?_⟩
  · subst hX
    refine wpAny_mono run2 (fun fl s' hs => ?_) fun e s' hs => hs
    cases fl with
    | ret u => obtain ⟨v, σ', H', J, rv, as, q⟩ := hs; obtain ⟨os, J2⟩ := freezeAll J as; exact fin J2 rv (q os)
    | next => obtain ⟨σ', H', J, q⟩ := hs; exact fin (v := V.non) (u := Value.none) J rfl q
    | brk => obtain ⟨_, _, _, q⟩ := hs; exact q.elim
    | cont => obtain ⟨_, _, _, q⟩ := hs; exact q.elim
  · have tl : (st'.take st.length).length = st.length := by rw [List.length_take]; have := f.le; omega
    rw [hK] at S'
    exact q .non H' m' (by rw [tl]; exact f.back) (S'.take f.le) .non
  · have tl : (st'.take st.length).length = st.length := by rw [List.length_take]; have := f.le; omega
    rw [hK] at S' r
    have plain : Q v H' → ∃ as, ∀ os, Q v (fzH H' as os) := fun z => ⟨[], fun os => by rw [fz_nil]; exact z⟩
    unfold endR at q
    split at q
    · exact plain (q _ H' m' (by rw [tl]; exact f.back) (S'.take f.le) (by rw [tl]; exact Rp.mv r (.le f.le)))
    · exact q.elim
    · rename_i i
      split at q
      · rename_i hi
        exact plain (q _ H' m' (by rw [tl]; exact f.back) (S'.take f.le) (by rw [tl]; exact ⟨hi, r.2⟩))
      · rename_i hi
        split at q
        · rename_i o eo
          have tl2 : (st'.take st.length ++ [o]).length = st.length + 1 := by simp [tl]
          exact plain (q _ H' (mup m' st.length (m'.ix i)) (by rw [tl2]; exact f.keep1 (by omega) r.1) (S'.keep1 (by omega) eo) (by rw [tl2]; exact ⟨Nat.lt_succ_self _, by rw [mup_new]; exact r.2⟩))
        · exact q.elim
    · rename_i w
      split at q
      · rename_i x ex
        have hA : AsNew m' st.length st'.length (newA st.length m' w) := newA_new (fun i e => by subst e; exact r.1)
        exact ⟨newA st.length m' w, fun os => q _ _ m' (by rw [tl]; exact (f.fz hA).back) (S'.fz f.le hA) (by rw [tl]; exact rw_frz S' f.le r ex (newA_all ex))⟩
      · exact q.elim
    · rename_i ws
      split at q
      · rename_i xs ex
        obtain ⟨a, u, us', rfl, h1, hu, h2⟩ := r
        have hA : AsNew m' st.length st'.length (ws.flatMap (newA st.length m')) := newAs_new h2
        exact ⟨ws.flatMap (newA st.length m'), fun os => q _ _ m' (by rw [tl]; exact (f.fz hA).back) (S'.fz f.le hA) (by rw [tl]; exact .tup (hu.tp (fz_same h1 hu.nK hu.nT)) (rws_frz S' f.le h2 ex fun a ha => by
          obtain ⟨w, hw, hb⟩ := List.mem_flatMap.mp ha
          obtain ⟨x, ex2⟩ := frzA_mem ex w hw
          exact List.mem_flatMap.mpr ⟨w, hw, newA_all ex2 a hb⟩))⟩
      · exact q.elim
  · have tl : (st'.take st.length).length = st.length := by rw [List.length_take]; have := f.le; omega
    rw [hK] at S' r
    rw [hmg] at r
    refine q c d H' m' (by rw [tl]; exact f.back) (S'.take f.le) ⟨r.cls, ?_⟩
    rw [tl]
    rcases r.fld with z | ⟨dd, h1, fs, h2, h3, h4, h5⟩
    · exact .inl z
    · exact .inr ⟨dd, h1, fs, h2, h3, h4.mv (.le f.le), off_le f.le h5⟩
def eCall (mf : List Wv → Sto → Rs Wv) (cs : En → Sto → Rs (List Wv)) : En → Sto → Rs Wv := fun env st => (cs env st).bind mf
section
variable {M : Md} {X : Cx} {B : Tb} {k : Nat} {f : Addr} {fd : FuncData} {ps : List Str} {mf : List Wv → Sto → Rs Wv} {cs : En → Sto → Rs (List Wv)} {x : Str} {p pos : Pos} {e : Expr} {es : List Expr}
theorem de_call {g : Bool} (c : Cxt M X B k) (F : Fnk M g k f fd ps mf) (j : Nat) (hg : B.gs[j]? = some x) (hm : M.mg x = some (.ref f)) (hk : PySem.W.keepIn M.K (.ref f) = true) (hb : Binds M.K fd ps []) (ha : DA X (e :: es) cs) (hgd : g = true → B.gd = true) (hdb : (x == ("__debug__" : Str)) = false := by decide)
    (he : starEach (e :: es) X.env = (false, eval e X.env) :: starEach es X.env := by rfl) (hpl : (backTo pos (starEach es X.env)).any (·.1) = false := by rfl) : DE X (.Call (.Name x p) (e :: es) [] pos) (eCall mf cs) := by
  obtain ⟨P, w, K, mg, base⟩ := M
  obtain ⟨rfl, rfl, rfl, rfl, rfl⟩ : X.prog = P ∧ X.w = w ∧ X.K = K ∧ X.mg = mg ∧ X.base = base := ⟨c.hP, c.hw, c.hK, c.mg, c.hb⟩
  refine .mk' fun W pins σ H s m env st Q tk I S R hp => ?_
  unfold eCall at hp
  rw [Rs.post_bind] at hp
  refine wpAny_Call_Name_kw (ld_glob I (c.gl j x hg) hm ?_ hdb)
  refine PySem.W.callWith_K (h₀ := X.base) I.ok.mod.kin hk (ha.go tk I S R pos (Rs.post_mono hp (fun ws st1 q vs H1 m1 us s1 I1 rv f1 S1 r1 => ⟨I1.kIn, ?_⟩) fun _ _ q => q)) he hpl
  have hl : us.length = ps.length := by rw [← rv.length, r1.len]; exact F.len _ _ _ _ q
  have bd := hb s1 us I1.kIn (by rw [List.append_nil]; exact hl)
  rw [List.append_nil] at bd
  refine wpAny_call (codeAny_mono (F.run X.A X.stack s1 H1 ⟨us, []⟩ us vs ws m1 st1 (fun v H' => ∀ u s', Inv X pins σ H' s' → RelV v u → Q u s') (WE W σ) c.room (fun z => c.gu (hgd z)) I1.env0 bd rv S1 r1 (Rs.post_mono q (fun w st2 q2 v H2 m2 f2 S2 r2 u s2 I2 rv2 => ?_) fun e st2 q2 c d H2 m2 f2 S2 r2 => ?_)) fun r s2 hq => ?_)
  · exact q2 v H2 m2 u s2 I2 rv2 (f1.trans f2) S2 r2
  · exact q2 c d H2 m2 (f1.trans f2) S2 r2
  · cases r with
    | error e => exact passAt tk σ pins H1 s1 e s2 I1 hq
    | ok fl =>
      cases fl with
      | ret u =>
        obtain ⟨v, H2, I2, rv2, q2⟩ := I1.after hq
        exact q2 u s2 I2 rv2
      | next => exact False.elim hq
      | brk => exact False.elim hq
      | cont => exact False.elim hq
end
end
section
variable [Wtp] [Tbl]
/-! ## the store is written -/
section
variable {K : Frg} {H H' : Hp} {m m' : Mp} {st : Sto} {n n' : Nat}
theorem Kp.wr {i : Nat} {o o' : HO} (hi : i < n) (h : H (m.ix i) = some o) (ho : (∃ xs, o = .lst xs) ∨ (∃ kvs, o = .dK kvs) ∨ ∃ kvs, o = .dT kvs) : Kp K H (Off m n) (upd H (m.ix i) o') (Off m n) := by
  refine ⟨fun a xs e => ?_, fun a q u e => ?_, fun a q _ e z => ⟨?_, z⟩⟩
  · rw [upd_ne]; exact e
    intro q; rw [q, h] at e
    rcases ho with ⟨_, rfl⟩ | ⟨_, rfl⟩ | ⟨_, rfl⟩ <;> cases e
  · rw [upd_ne]; exact e
    intro q; rw [q, h] at e
    rcases ho with ⟨_, rfl⟩ | ⟨_, rfl⟩ | ⟨_, rfl⟩ <;> cases e
  · rw [upd_ne]; exact e
    exact fun q => z.1 i hi q.symm
theorem Fol.wr {i : Nat} {o o' : HO} (hi : i < n) (h : H (m.ix i) = some o) (ho : (∃ xs, o = .lst xs) ∨ (∃ kvs, o = .dK kvs) ∨ ∃ kvs, o = .dT kvs) (nt : NT o' := by exact fun _ z => nomatch z) : Fol m n H m n (upd H (m.ix i) o') := by
  have kp := Kp.wr (K := ([] : Frg)) (o' := o') hi h ho
  refine ⟨kp.tup, kp.frz, fun a u _ e z => ?_, fun _ _ => rfl, fun i a b => absurd b (by omega), Nat.le_refl _, fun a e => ?_, fun _ _ => Iff.rfl⟩
  · rw [upd_ne]; exact e
    exact fun q => z i hi q.symm
  · by_cases q : a = m.ix i
    · rw [q]; exact ⟨_, upd_same, nt⟩
    · obtain ⟨u, e1, e2⟩ := e
      exact ⟨u, by rw [upd_ne q]; exact e1, e2⟩
theorem Sim.wr {i : Nat} {o o' : HO} {ob : Ob} (S : Sim K H m st) (hi : i < st.length) (h : H (m.ix i) = some o) (ho : (∃ xs, o = .lst xs) ∨ (∃ kvs, o = .dK kvs) ∨ ∃ kvs, o = .dT kvs) (hob : ObAt K (upd H (m.ix i) o') m st.length (m.ix i) ob) (nt : NT o' := by exact fun _ z => nomatch z) : Sim K (upd H (m.ix i) o') m (st.set i ob) := by
  have kp := Kp.wr (K := K) (o' := o') hi h ho
  have f := Fol.wr (o' := o') hi h ho nt
  have hl : (st.set i ob).length = st.length := List.length_set
  refine ⟨fun j u e => ?_, fun a b ha hb => S.inj a b (hl ▸ ha) (hl ▸ hb), fun a z => f.dom a (S.ff a z), fun j hj => S.fi j (hl ▸ hj), S.tb.wr h ho⟩
  rw [hl]
  by_cases q : i = j
  · subst q
    rw [List.getElem?_set_self hi] at e
    cases e
    exact hob
  · rw [List.getElem?_set_ne q] at e
    have hj : j < st.length := (List.getElem?_eq_some_iff.mp e).1
    have ne : m.ix j ≠ m.ix i := fun z => q (S.inj j i hj hi z).symm
    have old := S.ob j u e
    cases u with
    | lst xs => obtain ⟨vs, h1, h2⟩ := old; exact ⟨vs, by rw [upd_ne ne]; exact h1, h2.mv kp⟩
    | dct kvs => obtain ⟨vs, h1, h2⟩ := old; exact ⟨vs, by rw [upd_ne ne]; exact h1, RpK.kp kp _ _ h2⟩
    | dtt kvs => obtain ⟨vs, h1, h2⟩ := old; exact ⟨vs, by rw [upd_ne ne]; exact h1, RpT.kp kp _ _ h2⟩
    | lkd es => exact Rp.mv old kp
    | lkl xs => exact FzL.mv old kp
    | ins C es => exact InAt.mv old kp fun _ _ e => by rw [upd_ne ne]; exact e
end
/-- a method that writes a list of the store -/
def isLst (st : Sto) (w : Wv) : Bool := match w with
  | .r i => match st[i]? with
    | some (.lst _) => true
    | _ => false
  | _ => false
def eM (g : Wv → List Wv → Sto → Rs Wv) (co : En → Sto → Rs Wv) (cs : En → Sto → Rs (List Wv)) : En → Sto → Rs Wv := fun env st => (co env st).bind fun w st1 => if isLst st1 w = true then (cs env st1).bind fun ws st2 => g w ws st2 else .no
def appW (w : Wv) (ws : List Wv) (st : Sto) : Rs Wv := match w, ws with
  | .r i, [.d y] => match st[i]? with
    | some (.lst xs) => if xs.length < 1000000 then .ok (.d .none) (st.set i (.lst (xs ++ [y]))) else .no
    | _ => .no
  | _, _ => .no
section
variable {M : Md} {X : Cx} {B : Tb} {k : Nat} {pins : List (Addr × Obj)} {σ : L2.St} {H : Hp} {s : Shared} {m : Mp} {env : En} {st : Sto} {W : WX} {pos apos : Pos} {o e : Expr} {es : List Expr} {co ce : En → Sto → Rs Wv} {cs : En → Sto → Rs (List Wv)} {g : Wv → List Wv → Sto → Rs Wv}
theorem slot_at {v : V} {i : Nat} {xs : List PyData} (S : Sim X.K H m st) (r : RW X.K H m st.length v (.r i)) (e : st[i]? = some (.lst xs)) : ∃ us, v = .ref (m.ix i) ∧ H (m.ix i) = some (.lst us) ∧ RpA X.K H (Off m st.length) us xs := by
  obtain ⟨us, h1, h2⟩ := S.ob i _ e
  exact ⟨us, r.2, h1, h2⟩
theorem isLst_ty {v : V} {w : Wv} (S : Sim X.K H m st) (r : RW X.K H m st.length v w) (h : isLst st w = true) : tyV X.K "list" v H := by
  unfold isLst at h
  split at h
  · split at h
    · rename_i i _ xs e
      obtain ⟨us, rfl, h1, _⟩ := slot_at S r e
      exact .inl ⟨rfl, us, .inl (.inl h1)⟩
    · cases h
  · cases h
theorem te_mut {r : V → List V → Hp → VK → Prop} {Q : VK} (h : tE X W (eM g co cs) σ H Q)
    (q : ∀ (m : Mp) (st : Sto) (w : Wv) (ws : List Wv) (st2 : Sto) (v : V) (vs : List V) (H2 : Hp) (m2 : Mp), Fol m st.length H m2 st2.length H2 → Sim X.K H2 m2 st2 → RW X.K H2 m2 st2.length v w → RWs X.K H2 m2 st2.length vs ws → (g w ws st2).post (okE X m st.length H Q) (okX X W m st.length H σ) → r v vs H2 Q) :
    tBM X.K "list" r (tE X W co) (tA X W cs) σ H Q := by
  obtain ⟨m, env, st, S, R, hp⟩ := h
  unfold eM at hp
  rw [Rs.post_bind] at hp
  refine ⟨m, env, st, S, R, Rs.post_mono hp (fun w st1 q1 v H1 m1 f1 S1 r1 => ?_) fun _ _ q => q⟩
  split at q1
  · rename_i hw
    rw [Rs.post_bind] at q1
    exact ⟨isLst_ty S1 r1 hw, m1, env, st1, S1, R.mv f1, Rs.post_mono q1 (fun ws st2 q2 vs H2 m2 f2 S2 r2 => q m st w ws st2 v vs H2 m2 (f1.trans f2) S2 (r1.mv f2) r2 q2) fun _ _ z => okX.tr f1 z⟩
  · exact q1.elim
/-- the end of a write -/
theorem wr_end {H2 : Hp} {m2 : Mp} {st0 st2 : Sto} {i : Nat} {us vs : List V} {ds : List PyData} {x : PyData} {z : V} {Q : VK} {E : Xc → Sto → Prop} (f : Fol m st0.length H m2 st2.length H2) (S : Sim X.K H2 m2 st2) (hi : i < st2.length) (h : H2 (m2.ix i) = some (.lst us))
    (ra : RpA X.K H2 (Off m2 st2.length) vs ds) (rz : Rp X.K H2 (Off m2 st2.length) z x) (q : (Rs.ok (Wv.d x) (st2.set i (.lst ds))).post (okE X m st0.length H Q) E) : Q z (upd H2 (m2.ix i) (.lst vs)) := by
  have f2 : Fol m2 st2.length H2 m2 st2.length (upd H2 (m2.ix i) (.lst vs)) := .wr hi h (.inl ⟨_, rfl⟩)
  have hl : (st2.set i (Ob.lst ds)).length = st2.length := List.length_set
  refine q z _ m2 (by rw [hl]; exact f.trans f2) (S.wr hi h (.inl ⟨_, rfl⟩) ⟨vs, upd_same, ra.mv f2.kp⟩) ?_
  rw [hl]
  exact rz.mv f2.kp
theorem de_append (ho : DE X o co) (ha : DA X [e] cs) (hbase : attributeBase o "append" X.env (eval o X.env) = eval o X.env := by rfl)
    (hfew : ((backTo pos (starEach [e] X.env)).all (fun x => !x.1) && (backToKw pos (keywordEach [] X.env)).all (fun x => x.1.isSome)
      && decide ([e].length + ([] : List Keyword).length + (if ([] : List Keyword).isEmpty then 0 else 1) < 30)) = true := by rfl)
    (hline : (apos.endLine == pos.line) = true := by rfl) (hs : starEach [e] X.env = (false, eval e X.env) :: starEach [] X.env := by rfl) : DE X (.Call (.Attribute o "append" apos) [e] [] pos) (eM appW co cs) := by
  refine ⟨fun W tk => PE.imp (pe_bm PySem.F.plainAttrs_list PySem.F.slot_list_append PySem.F.type_list_append mt_append (ho.pe W tk) (ha.pa W tk) hbase hfew hline hs rfl) fun σ H Q h => te_mut h fun m st w ws st2 v vs H2 m2 f2 S2 r2 rs q => ?_⟩
  unfold appW at q
  split at q
  · split at q
    · rename_i i y _ xs ex
      split at q
      · rename_i hl
        obtain ⟨us, rfl, h1, h2⟩ := slot_at S2 r2 ex
        obtain ⟨u, rfl, ru⟩ := rws1 rs
        have hi : i < st2.length := (List.getElem?_eq_some_iff.mp ex).1
        refine ⟨_, us, u, rfl, rfl, h1, by rw [h2.len]; have := line_lim; omega, ?_⟩
        exact wr_end f2 S2 hi h1 (h2.app (.cons ru .nil)) .non q
      · exact q.elim
    · exact q.elim
  · exact q.elim
/-! ### x[i] = e -/
def dPut (es : List (PyData × PyData)) (k : Key) (c d : PyData) : List (PyData × PyData) := if hasKey es k = true then es.map (fun e => if keyD e.1 = some k then (e.1, d) else e) else es ++ [(c, d)]
theorem rpk_map {Z : Addr → Prop} {H : Hp} {v : V} {d : PyData} {q : Key} (r : Rp X.K H Z v d) : ∀ {ks : List (Key × V)} {es : List (PyData × PyData)}, RpK X.K H Z ks es →
    RpK X.K H Z (ks.map fun kv => if kv.1 = q then (kv.1, v) else kv) (es.map fun e => if keyD e.1 = some q then (e.1, d) else e)
  | [], _, h => by cases h; exact .nil
  | (k0, v0) :: ks, _, h => by
    cases h with
    | cons h0 h1 h2 =>
      simp only [List.map_cons]
      by_cases e : k0 = q
      · rw [if_pos e, if_pos (by rw [h0, e])]
        exact .cons h0 r (rpk_map r h2)
      · rw [if_neg e, if_neg (by rw [h0]; exact fun z => e (Option.some.inj z))]
        exact .cons h0 h1 (rpk_map r h2)
theorem rpk_app {Z : Addr → Prop} {H : Hp} {v : V} {c d : PyData} {q : Key} (e : keyD c = some q) (r : Rp X.K H Z v d) : ∀ {ks : List (Key × V)} {es : List (PyData × PyData)}, RpK X.K H Z ks es → RpK X.K H Z (ks ++ [(q, v)]) (es ++ [(c, d)])
  | [], _, h => by cases h; exact .cons e r .nil
  | (k0, v0) :: ks, _, h => by cases h with | cons h0 h1 h2 => exact .cons h0 h1 (rpk_app e r h2)
theorem rpk_put {Z : Addr → Prop} {H : Hp} {v : V} {c d : PyData} {q : Key} {ks : List (Key × V)} {es : List (PyData × PyData)} (e : keyD c = some q) (r : Rp X.K H Z v d) (h : RpK X.K H Z ks es) : RpK X.K H Z (L2.putK ks q v) (dPut es q c d) := by
  unfold L2.putK dPut
  rw [valV_any, valV_has q h]
  split
  · exact rpk_map r h
  · exact rpk_app e r h
theorem rt_key {Z : Addr → Prop} {H : Hp} {v : V} {c : PyData} {q : Key} (h : RT X.K H Z v c) (e : keyD c = some q) : v = kV q := by
  unfold keyD at e
  split at e
  · cases e; exact h.int
  · cases e; exact h.str
  · cases e
def dPutT (es : List (PyData × PyData)) (k : List Key) (c d : PyData) : List (PyData × PyData) := if (dLookT es k).isSome = true then es.map (fun e => if tkD e.1 = some k then (e.1, d) else e) else es ++ [(c, d)]
theorem rpt_map {Z : Addr → Prop} {H : Hp} {v : V} {d : PyData} {q : List Key} (r : Rp X.K H Z v d) : ∀ {ks : List (List Key × V)} {es : List (PyData × PyData)}, RpT X.K H Z ks es →
    RpT X.K H Z (ks.map fun kv => if kv.1 = q then (kv.1, v) else kv) (es.map fun e => if tkD e.1 = some q then (e.1, d) else e)
  | [], _, h => by cases h; exact .nil
  | (k0, v0) :: ks, _, h => by
    cases h with
    | cons h0 h1 h2 =>
      simp only [List.map_cons]
      by_cases e : k0 = q
      · rw [if_pos e, if_pos (by rw [h0, e])]
        exact .cons h0 r (rpt_map r h2)
      · rw [if_neg e, if_neg (by rw [h0]; exact fun z => e (Option.some.inj z))]
        exact .cons h0 h1 (rpt_map r h2)
theorem rpt_app {Z : Addr → Prop} {H : Hp} {v : V} {c d : PyData} {q : List Key} (e : tkD c = some q) (r : Rp X.K H Z v d) : ∀ {ks : List (List Key × V)} {es : List (PyData × PyData)}, RpT X.K H Z ks es → RpT X.K H Z (ks ++ [(q, v)]) (es ++ [(c, d)])
  | [], _, h => by cases h; exact .cons e r .nil
  | (k0, v0) :: ks, _, h => by cases h with | cons h0 h1 h2 => exact .cons h0 h1 (rpt_app e r h2)
theorem rpt_put {Z : Addr → Prop} {H : Hp} {v : V} {c d : PyData} {q : List Key} {ks : List (List Key × V)} {es : List (PyData × PyData)} (e : tkD c = some q) (r : Rp X.K H Z v d) (h : RpT X.K H Z ks es) : RpT X.K H Z (L2.putK ks q v) (dPutT es q c d) := by
  unfold L2.putK dPutT
  rw [valV_any, valV_hasT q h]
  split
  · exact rpt_map r h
  · exact rpt_app e r h
/-- a key's tuple that the top has not written -/
theorem rt_tkey {Z : Addr → Prop} {H : Hp} {v : V} {c : PyData} {q : List Key} (h : RT X.K H Z v c) (e : tkD c = some q) (hw : NoW c) : ∃ b, v = .ref b ∧ H b = some (.tup (q.map kV)) := by
  cases c with
  | tuple ds =>
    obtain ⟨b, vs, rfl, h1, h2⟩ := h.tupT
    obtain ⟨b2, e2, h3⟩ := tkD_v h e
    cases e2
    rcases h1 with ⟨_, h1⟩ | h1 | ⟨z, _⟩
    · refine ⟨b, rfl, ?_⟩
      have : ∀ {vs : List V} {ds : List PyData} {k : List Key}, RpA X.K H Z vs ds → keysD ds = some k → vs = k.map kV := by
        intro vs ds
        induction ds generalizing vs with
        | nil => intro k r e; cases e; cases r; rfl
        | cons d ds ih =>
          intro k r e
          unfold keysD at e
          split at e
          · rename_i k0 ks e1 e2
            cases e
            cases r with
            | cons r1 r2 => rw [List.map_cons, ih r2 e2, keyD_v (Z := Z) (.inl r1) e1]
          · cases e
      rw [this h2 (show keysD ds = some q from e)] at h1
      exact h1
    · exact absurd h1.2.1 hw.1
    · rw [hw.2] at z; cases z
  | _ => cases e
open Classical in
noncomputable def setW (w j : Wv) (y : PyData) (st : Sto) : Option Sto := match w with
  | .r n => match st[n]?, look st j with
    | some (.lst xs), some (.int t) => (ixN xs.length t).map fun q => st.set n (.lst (xs.set q y))
    | some (.dct es), some c => match keyD c with
      | some q => if es.length < 1000000 then some (st.set n (.dct (dPut es q c y))) else none
      | none => none
    | some (.dtt es), some c => match tkD c with
      | some q => if es.length < 1000000 ∧ NoW c then some (st.set n (.dtt (dPutT es q c y))) else none
      | none => none
    | _, _ => none
  | _ => none
noncomputable def sIx (co ci ce : En → Sto → Rs Wv) : En → Sto → SR := fun env st => (ce env st).sb fun x st1 => (co env st1).sb fun w st2 => (ci env st2).sb fun j st3 => match x with
  | .d y => match setW w j y st3 with
    | some st4 => .nx env st4
    | none => .no
  | _ => .no
def rSetB : TSet := fun o i v H Q => rSetL o i v H Q ∨ rSetD o i v H Q
theorem set_both (hu : X.A.units + 1 < cLine) : PSet X rSetB := by
  intro pins s σ H o i v ov iv u Q I ro ri rv h
  rcases h with h | h
  · exact set_list pins s σ H o i v ov iv u Q I ro ri rv h
  · exact set_dict hu pins s σ H o i v ov iv u Q I ro ri rv h
theorem setW_ok {D : Ends} {w j : Wv} {y : PyData} {st0 st4 : Sto} {ov iv v : V} {R : Hp → Prop} (S : Sim X.K H m st) (rw' : RW X.K H m st.length ov w) (rj : RW X.K H m st.length iv j) (ry : Rp X.K H (Off m st.length) v y) (e : setW w j y st = some st4)
    (q : ∀ H', Fol m st.length H m st4.length H' → Sim X.K H' m st4 → R H') : rSetB ov iv v H R := by
  unfold setW at e
  split at e
  · rename_i n
    split at e
    · rename_i xs t e1 e2
      have hi : n < st.length := (List.getElem?_eq_some_iff.mp e1).1
      obtain ⟨us, h1, h2⟩ := S.ob n _ e1
      cases e3 : ixN xs.length t with
      | none => rw [e3] at e; cases e
      | some z =>
        rw [e3] at e
        cases e
        have f2 : Fol m st.length H m st.length (upd H (m.ix n) (.lst (us.set z v))) := .wr hi h1 (.inl ⟨_, rfl⟩)
        have hl : (st.set n (Ob.lst (xs.set z y))).length = st.length := List.length_set
        refine .inl ⟨m.ix n, us, t, z, rw'.2, (look_rt S rj e2).int, h1, by rw [h2.len]; exact e3, ?_⟩
        exact q _ (by rw [hl]; exact f2) (S.wr hi h1 (.inl ⟨_, rfl⟩) ⟨_, upd_same, (RpA.set ry z h2).mv f2.kp⟩)
    · rename_i es c e1 e2
      have hi : n < st.length := (List.getElem?_eq_some_iff.mp e1).1
      obtain ⟨ks, h1, h2⟩ := S.ob n _ e1
      split at e
      · rename_i z ez
        split at e
        · rename_i hlt
          cases e
          have f2 : Fol m st.length H m st.length (upd H (m.ix n) (.dK (L2.putK ks z v))) := .wr hi h1 (.inr (.inl ⟨_, rfl⟩))
          have hl : (st.set n (Ob.dct (dPut es z c y))).length = st.length := List.length_set
          refine .inr ⟨m.ix n, _, rw'.2, by rw [rt_key (look_rt S rj e2) ez]; exact .k h1 (by rw [h2.len]; have := line_lim; omega), ?_⟩
          exact q _ (by rw [hl]; exact f2) (S.wr hi h1 (.inr (.inl ⟨_, rfl⟩)) ⟨_, upd_same, RpK.kp f2.kp _ _ (rpk_put ez ry h2)⟩)
        · cases e
      · cases e
    · rename_i es c e1 e2
      have hi : n < st.length := (List.getElem?_eq_some_iff.mp e1).1
      obtain ⟨ks, h1, h2⟩ := S.ob n _ e1
      split at e
      · rename_i z ez
        split at e
        · rename_i hlt
          cases e
          have f2 : Fol m st.length H m st.length (upd H (m.ix n) (.dT (L2.putK ks z v))) := .wr hi h1 (.inr (.inr ⟨_, rfl⟩))
          have hl : (st.set n (Ob.dtt (dPutT es z c y))).length = st.length := List.length_set
          obtain ⟨b, rfl, hb⟩ := rt_tkey (look_rt S rj e2) ez hlt.2
          refine .inr ⟨m.ix n, _, rw'.2, .t h1 hb (by rw [h2.len]; have := line_lim; omega), ?_⟩
          exact q _ (by rw [hl]; exact f2) (S.wr hi h1 (.inr (.inr ⟨_, rfl⟩)) ⟨_, upd_same, RpT.kp f2.kp _ _ (rpt_put ez ry h2)⟩)
        · cases e
      · cases e
    · cases e
  · cases e
theorem ds_setix (c : Cxt M X B k) {oe ie : Expr} {ci : En → Sto → Rs Wv} {p2 : Pos} (ho : DE X oe co) (hi : DE X ie ci) (he : DE X e ce) (hs : swapsWithSole [.Subscript oe ie p2] e pos.line X.env = pure false := by rfl) (hw : swappedStores [.Subscript oe ie p2] e X.env = pure none := by rfl)
    (h1 : (assignEach [.Subscript oe ie p2] X.env).map (·.2) = [assign (.Subscript oe ie p2) X.env] := by rfl)
    (ha : ∀ v, assign (.Subscript oe ie p2) X.env v = (do
      let ov ← holding [v] (eval oe X.env)
      let iv ← holding [v, ov] (eval ie X.env)
      standAt p2
      holding [v, ov, iv] (setItem ov iv v)
      release [v, ov, iv] []) := by intro _; rfl) : DS X (.Assign [.Subscript oe ie p2] e pos) (sIx co ci ce) := by
  refine ⟨fun W tk => PS.imp (ps_asg (he.pe W tk) (pg_sub (ho.pe W tk) (hi.pe W tk) (set_both (room_eq c.roomH (show 1 ≤ 60 by decide))) ha) hs hw h1) fun D σ H ⟨m, env, st, S, R, hp⟩ => ?_⟩
  unfold sIx at hp
  rw [Rs.post_sb] at hp
  refine ⟨m, env, st, S, R, Rs.post_mono hp (fun x st1 q v H1 m1 f1 S1 r1 => ?_) fun _ _ h => h.x⟩
  rw [Rs.post_sb] at q
  refine ⟨m1, env, st1, S1, R.mv f1, Rs.post_mono q (fun w st2 q ov H2 m2 f2 S2 r2 => ?_) fun _ _ h => (okXs.tr f1 h).x⟩
  rw [Rs.post_sb] at q
  refine ⟨m2, env, st2, S2, (R.mv f1).mv f2, Rs.post_mono q (fun j st3 q iv H3 m3 f3 S3 r3 => ?_) fun _ _ h => (okXs.tr (f1.trans f2) h).x⟩
  split at q
  · split at q
    · rename_i y st4 e4
      exact setW_ok (D := D) (st0 := st) S3 (r2.mv f3) r3 ((r1.mv f2).mv f3) e4 fun H' f4 S4 => q σ H' m3 (((f1.trans f2).trans f3).trans f4) S4 ((((R.mv f1).mv f2).mv f3).mv f4)
    · exact q.elim
  · exact q.elim
/-- x[a, b] = e: the key is a new tuple -/
def setWT (w : Wv) (c y : PyData) (st : Sto) : Option Sto := match w with
  | .r n => match st[n]? with
    | some (.dtt es) => match tkD c with
      | some q => if es.length < 1000000 then some (st.set n (.dtt (dPutT es q c y))) else none
      | none => none
    | _ => none
  | _ => none
def sIxT (co : En → Sto → Rs Wv) (cs : En → Sto → Rs (List Wv)) (ce : En → Sto → Rs Wv) : En → Sto → SR := fun env st => (ce env st).sb fun x st1 => (co env st1).sb fun w st2 => (cs env st2).sb fun js st3 => match x with
  | .d y => match allD js with
    | some ds => if ds.length ≤ 1000000 then (match setWT w (.tuple ds) y st3 with
      | some st4 => .nx env st4
      | none => .no) else .no
    | none => .no
  | _ => .no
end
end
section
variable [Wtp] [Tbl]
/-! ## max, min of two ints; t[::-1]; index in a written tuple -/
def max2F : List PyData → Option PyData
  | [.int i, .int j] => some (.int (if j > i then j else i))
  | _ => none
def min2F : List PyData → Option PyData
  | [.int i, .int j] => some (.int (if j < i then j else i))
  | _ => none
section
variable {X : Cx}
theorem c_max2 (hc : X.calm = true) : CallR X (.builtin "max") (rN X.K max2F) := by
  intro pins s σ H xs us Q I r ⟨Z, ds, e, hz, hd, hf, ho⟩
  unfold max2F at hf
  split at hf
  · cases hf
    obtain ⟨v, w, rfl, h1, h2⟩ := rts2 hd
    cases h1.int
    cases h2.int
    exact call_max2 hc pins s σ H _ us Q I r ⟨_, _, rfl, rout_here ho (.int _)⟩
  · cases hf
theorem c_min2 (hc : X.calm = true) : CallR X (.builtin "min") (rN X.K min2F) := by
  intro pins s σ H xs us Q I r ⟨Z, ds, e, hz, hd, hf, ho⟩
  unfold min2F at hf
  split at hf
  · cases hf
    obtain ⟨v, w, rfl, h1, h2⟩ := rts2 hd
    cases h1.int
    cases h2.int
    exact call_min2 hc pins s σ H _ us Q I r ⟨_, _, rfl, rout_here ho (.int _)⟩
  · cases hf
end
section
variable {M : Md} {X : Cx} {B : Tb} {k : Nat} {σ : L2.St} {H : Hp} {W : WX} {c : En → Sto → Rs Wv}
/-! ### x.index(e), x a written tuple of texts -/
def idxS (ys : List Str) (z : Str) : Option Nat := ys.findIdx? fun y => decide (y = z)
def eGix (ys : List Str) (cs : En → Sto → Rs (List Wv)) : En → Sto → Rs Wv := fun env st => (cs env st).bind fun ws st1 => match ws with
  | [.d (.str z)] => match idxS ys z with
    | some i => .ok (.d (.int (i : Nat))) st1
    | none => .no
  | _ => .no
theorem de_gindex {x : Str} {p : Addr} {ys : List Str} {cs : En → Sto → Rs (List Wv)} {e : Expr} {p1 apos pos : Pos} (cx : Cxt M X B k) (j : Nat) (hg : B.gs[j]? = some x) (hm : M.mg x = some (.ref p)) (hq : ∀ H, SqT M.K H p (ys.map V.str))
    (ht : ∃ o, M.K.lookup p = some o ∧ o.cls = .type "tuple" ∧ o.dict = none) (ha : DA X [e] cs) (hd : (x == ("__debug__" : Str)) = false := by decide) (hbase : attributeBase (.Name x p1) "index" X.env (eval (.Name x p1) X.env) = eval (.Name x p1) X.env := by rfl)
    (hfew : ((backTo pos (starEach [e] X.env)).all (fun x => !x.1) && (backToKw pos (keywordEach [] X.env)).all (fun x => x.1.isSome)
      && decide ([e].length + ([] : List Keyword).length + (if ([] : List Keyword).isEmpty then 0 else 1) < 30)) = true := by rfl)
    (hline : (apos.endLine == pos.line) = true := by rfl) (hs : starEach [e] X.env = (false, eval e X.env) :: starEach [] X.env := by rfl) : DE X (.Call (.Attribute (.Name x p1) "index" apos) [e] [] pos) (eGix ys cs) := by
  refine ⟨fun W tk => PE.imp (pe_bm PySem.F.plainAttrs_tuple PySem.F.slot_tuple_index PySem.F.type_tuple_index mt_tup_index (pe_glob (v := .ref p) (cx.gl j x hg) (by rw [cx.mg]; exact hm) rfl hd) (ha.pa W tk) hbase hfew hline hs rfl) fun σ H Q ⟨m, env, st, S, R, hp⟩ => ?_⟩
  refine ⟨.inr (.inl ⟨rfl, by rw [cx.hK]; exact ht⟩), ?_⟩
  unfold eGix at hp
  rw [Rs.post_bind] at hp
  refine ⟨m, env, st, S, R, Rs.post_mono hp (fun ws st1 q vs H1 m1 f1 S1 r1 => ?_) fun _ _ q => q⟩
  split at q
  · rename_i z
    split at q
    · rename_i i ei
      obtain ⟨v, rfl, r⟩ := rws1 r1
      cases r
      unfold idxS at ei
      rw [List.findIdx?_eq_some_iff_getElem] at ei
      obtain ⟨hi, h1, h2⟩ := ei
      refine ⟨p, ys, z, i, rfl, rfl, by rw [cx.hK]; exact hq _, by rw [List.getElem?_eq_getElem hi]; simpa using h1, fun n hn e => ?_, q _ H1 m1 f1 S1 (.int _)⟩
      have := h2 n hn
      have hn2 : n < ys.length := by omega
      rw [List.getElem?_eq_getElem hn2] at e
      simp at this e
      exact this e
    · exact q.elim
  · exact q.elim
end
end
section
variable [Wtp] [Tbl]
/-! ## the law's own call -/
theorem sysM_of {h : Heap} (x : h.NoSeer) : SysM h := by
  obtain ⟨mm, ⟨o, es, ep, e, d, _⟩, _⟩ := x.mods
  exact ⟨o, es, ep, e, d⟩
end
section
variable [Wtp] [Tbl]
/-! ## a, b = x, y: which stores -/
section
variable {M : Md} {X : Cx} {B : Tb} {k : Nat} {x y z : Str} {px py pz pt pt2 : Pos} {kt k2 : Nat} {a b e : Expr}
theorem isLoc (c : Cxt M X B k) {i : Nat} (h : i ∈ B.ps) (hx : B.N[i]? = some x) : X.env.kindOf x = some .local := c.pl i h x hx
theorem blkFn (c : Cxt M X B k) (hf : B.fn = true) : X.env.blockKind = .function := by unfold Env.blockKind; rw [c.kind hf]; rfl
def NoStar (e : Expr) : Prop := ∀ u p, e ≠ .Starred u p
theorem sw2 (c : Cxt M X B k) {i j : Nat} (hi : B.N[i]? = some x) (hj : B.N[j]? = some y) (pi : i ∈ B.ps) (pj : j ∈ B.ps) (hxy : [x, y].eraseDups.length = 2) (hf : B.fn = true) (hln : (py.line == px.line) = true)
    (ha : NoStar a) (hb : NoStar b) (hff : [a, b].all (foldedForSure 8) = false) (hca : [a, b].all (constantsAlone 8) = false) :
    swappedStores [.Tuple [.Name x px, .Name y py] kt pt] (.Tuple [a, b] k2 pt2) X.env = pure (some [x, y]) := by
  have h1 := isLoc c pi hi
  have h2 := isLoc c pj hj
  have h3 := blkFn c hf
  have hl : py.line = px.line := eq_of_beq hln
  unfold swappedStores
  simp [h1, h2, h3, hl, hff, hca, hxy, Expr.pos]
  rintro (h | h)
  · split at h
    · exact absurd rfl (ha _ _)
    · cases h
  · split at h
    · exact absurd rfl (hb _ _)
    · cases h
theorem sw3 (c : Cxt M X B k) {i j l : Nat} (hi : B.N[i]? = some x) (hj : B.N[j]? = some y) (hl : B.N[l]? = some z) (pi : i ∈ B.ps) (pj : j ∈ B.ps) (pl : l ∈ B.ps) (hxy : [x, y, z].eraseDups.length = 3) (hf : B.fn = true) (hln : (py.line == px.line) = true) (hlz : (pz.line == px.line) = true)
    (ha : NoStar a) (hb : NoStar b) (he : NoStar e) (hff : [a, b, e].all (foldedForSure 8) = false) (hca : [a, b, e].all (constantsAlone 8) = false) :
    swappedStores [.Tuple [.Name x px, .Name y py, .Name z pz] kt pt] (.Tuple [a, b, e] k2 pt2) X.env = pure (some [x, y, z]) := by
  have h1 := isLoc c pi hi
  have h2 := isLoc c pj hj
  have h4 := isLoc c pl hl
  have h3 := blkFn c hf
  have hl : py.line = px.line := eq_of_beq hln
  have hl2 : pz.line = px.line := eq_of_beq hlz
  unfold swappedStores
  simp [h1, h2, h3, h4, hl, hl2, hff, hca, hxy, Expr.pos]
  rintro (h | h | h)
  · split at h
    · exact absurd rfl (ha _ _)
    · cases h
  · split at h
    · exact absurd rfl (hb _ _)
    · cases h
  · split at h
    · exact absurd rfl (he _ _)
    · cases h
/-! ## the module's defs -/
def Has (M : Md) (g : Bool) (k : Nat) (x : Str) (ps : List Str) (mf : List Wv → Sto → Rs Wv) : Prop := ∃ f fd, M.mg x = some (.ref f) ∧ PySem.W.keepIn M.K (.ref f) = true ∧ Binds M.K fd ps [] ∧ Fnk M g k f fd ps mf
theorem Has.up {g : Bool} {ps : List Str} {mf : List Wv → Sto → Rs Wv} {j : Nat} (h : Has M g j x ps mf) (hj : j ≤ k) : Has M g k x ps mf := by
  obtain ⟨f, fd, h1, h2, h3, h4⟩ := h
  exact ⟨f, fd, h1, h2, h3, h4.mono hj⟩
theorem de_fn {g : Bool} {ps : List Str} {mf : List Wv → Sto → Rs Wv} {cs : En → Sto → Rs (List Wv)} {p pos : Pos} {es : List Expr} (c : Cxt M X B k) (F : Has M g k x ps mf) (j : Nat) (hg : B.gs[j]? = some x) (ha : DA X (e :: es) cs) (hgd : g = true → B.gd = true := by first | exact fun _ => rfl | exact fun z => Bool.noConfusion z) (hdb : (x == ("__debug__" : Str)) = false := by decide)
    (he : starEach (e :: es) X.env = (false, eval e X.env) :: starEach es X.env := by rfl) (hpl : (backTo pos (starEach es X.env)).any (·.1) = false := by rfl) : DE X (.Call (.Name x p) (e :: es) [] pos) (eCall mf cs) := by
  obtain ⟨f, fd, h1, h2, h3, h4⟩ := F
  exact de_call c h4 j hg h1 h2 h3 ha hgd hdb he hpl
/-- a def as the top has written it -/
structure TopFn (M : Md) (x : Str) (sf : Stmt) (ps : List Str) : Prop where
  at' : ∃ (f : Addr) (od an : Option Addr) (sl : Array (Option Value)) (oc kV dc pm cd ct : Value), M.mg x = some (.ref f) ∧ M.K.lookup f = some ⟨oc, od, .func (PySem.W.fnOf x x (defArgs sf) (defBody sf) (defScope sf) .none kV dc pm an cd ct), sl⟩ ∧
    PySem.W.codeIn M.K cd x = true ∧ PySem.W.keepIn M.K (.ref f) = true ∧ Binds M.K (PySem.W.fnOf x x (defArgs sf) (defBody sf) (defScope sf) .none kV dc pm an cd ct) ps []
/-- a def of the module that makes lambdas -/
structure LamT (M : Md) (x q : Str) : Prop where
  nm : (x ++ ".<locals>.") ++ "<lambda>" = q
  at' : ∃ c P : Addr, (∀ (f : Addr) (oc : Value) (od : Option Addr) (fd : FuncData) (sl : Array (Option Value)), M.mg x = some (.ref f) → M.K.lookup f = some ⟨oc, od, .func fd, sl⟩ → fd.code = .ref c) ∧ (P, q) ∈ Tbl.T ∧ (∀ p ∈ Tbl.T, p.1 = P → p.2 = q) ∧ LamX.TabB M.base M.mg c P
theorem LamT.to {q : Str} {f : Addr} {oc : Value} {od : Option Addr} {fd : FuncData} {sl : Array (Option Value)} (T : LamT M x q) (h1 : M.mg x = some (.ref f)) (h2 : M.K.lookup f = some ⟨oc, od, .func fd, sl⟩) : (x ++ ".<locals>.") ++ "<lambda>" = q ∧ LamC M.mg M.base q fd.code := by
  obtain ⟨c, P, e1, e2, e3, e4⟩ := T.at'
  exact ⟨T.nm, ⟨c, P, e1 f oc od fd sl h1 h2, e2, e3, e4⟩⟩
theorem has_of {sf : Stmt} {ps : List Str} {cb : En → Sto → SR} {np nN : Nat} (T : TopFn M x sf ps) (SC : FnScope B.N ps (defScope sf)) (hT : fnT B (defScope sf) = true) (hnp : ps.length = np) (hnN : B.N.length = nN)
    (hb : ∀ X : Cx, Cxt M X B k → DB X (defBody sf) cb) (hlam : ∀ q, B.lq = some q → LamT M x q := by intro _ h; exact nomatch (show (none : Option Str) = some _ from h)) : Has M B.gd (k + 1) x ps (mkF np nN cb) := by
  obtain ⟨f, od, an, sl, oc, kV, dc, pm, cd, ct, h1, h2, h3, h4, h5⟩ := T.at'
  exact ⟨f, _, h1, h4, h5, fnk_of h2 h3 SC hT hnp hnN hb (fun q hq => (hlam q hq).to h1 h2)⟩
/-! ## the module's constants -/
def Gw (M : Md) (x : Str) (y : PyData) : Prop := ∃ u v, M.mg x = some u ∧ RelV v u ∧ ∀ H Z, Rp M.K H Z v y
theorem de_gw {y : PyData} {p : Pos} (c : Cxt M X B k) (j : Nat) (h : B.gs[j]? = some x) (g : Gw M x y) (hd : (x == ("__debug__" : Str)) = false := by decide) : DE X (.Name x p) (eK y) := by
  obtain ⟨u, v, h1, h2, h3⟩ := g
  exact de_glob c j h h1 h2 h3 hd
def Gix (M : Md) (x : Str) (ys : List Str) : Prop := ∃ p, M.mg x = some (.ref p) ∧ (∀ H, SqT M.K H p (ys.map V.str)) ∧ ∃ o, M.K.lookup p = some o ∧ o.cls = .type "tuple" ∧ o.dict = none
theorem de_gix {ys : List Str} {cs : En → Sto → Rs (List Wv)} {p1 apos pos : Pos} (c : Cxt M X B k) (j : Nat) (h : B.gs[j]? = some x) (g : Gix M x ys) (ha : DA X [e] cs)
    (hfew : ((backTo pos (starEach [e] X.env)).all (fun x => !x.1) && (backToKw pos (keywordEach [] X.env)).all (fun x => x.1.isSome)
      && decide ([e].length + ([] : List Keyword).length + (if ([] : List Keyword).isEmpty then 0 else 1) < 30)) = true := by rfl)
    (hline : (apos.endLine == pos.line) = true := by rfl) (hs : starEach [e] X.env = (false, eval e X.env) :: starEach [] X.env := by rfl) (hd : (x == ("__debug__" : Str)) = false := by decide)
    (hbase : attributeBase (.Name x p1) "index" X.env (eval (.Name x p1) X.env) = eval (.Name x p1) X.env := by rfl) : DE X (.Call (.Attribute (.Name x p1) "index" apos) [e] [] pos) (eGix ys cs) := by
  obtain ⟨p, h1, h2, h3⟩ := g
  exact de_gindex c j h h1 h2 h3 ha hd hbase hfew hline hs
theorem top_mk {h : Heap} {sf : Stmt} {ps : List Str} {f : Addr} {od an : Option Addr} {sl : Array (Option Value)} {oc kV dc pm cd ct : Value} (inK : M.K.In h) (G : h.Ns mainGlobals M.mg) (a : PySem.W.nsIn M.K mainGlobals x = some (some (.ref f)))
    (l : M.K.lookup f = some ⟨oc, od, .func (PySem.W.fnOf x x (defArgs sf) (defBody sf) (defScope sf) .none kV dc pm an cd ct), sl⟩) (cc : PySem.W.codeIn M.K cd x = true) (kk : PySem.W.keepIn M.K (.ref f) = true)
    (hb : ∀ us : List Value, us.length = ps.length → bindArgs (PySem.W.fnOf x x (defArgs sf) (defBody sf) (defScope sf) .none kV dc pm an cd ct) ⟨us, []⟩ = pure (ps.zip us)) : TopFn M x sf ps :=
  ⟨f, od, an, sl, oc, kV, dc, pm, cd, ct, PySem.W.mg_of inK G a, l, cc, kk, .all hb⟩
/-- a value that the top has written -/
def Wr (K : Frg) (u : Value) (d : PyData) : Prop := ∃ v, RelV v u ∧ ∀ H Z, Rp K H Z v d
def Wrs (K : Frg) (us : List Value) (ds : List PyData) : Prop := ∃ vs, Vals vs us ∧ ∀ H Z, RpA K H Z vs ds
section
variable {K : Frg}
theorem wr_int {i : Int} {t : Tok} : Wr K (.int i t) (.int i) := ⟨.int i, ⟨t, rfl⟩, fun _ _ => .int i⟩
theorem wr_str {z : Str} {t : Tok} : Wr K (.str z t) (.str z) := ⟨.str z, ⟨t, rfl⟩, fun _ _ => .str z⟩
theorem wrs_nil : Wrs K [] [] := ⟨[], .nil, fun _ _ => .nil⟩
theorem wrs_cons {u : Value} {us : List Value} {d : PyData} {ds : List PyData} (h : Wr K u d) (r : Wrs K us ds) : Wrs K (u :: us) (d :: ds) := by
  obtain ⟨v, h1, h2⟩ := h
  obtain ⟨vs, h3, h4⟩ := r
  exact ⟨v :: vs, .cons h1 h3, fun H Z => .cons (h2 H Z) (h4 H Z)⟩
theorem wr_tup {p : Addr} {us : List Value} {ds : List PyData} {n : Nat} {sl : Array (Option Value)} (l : K.lookup p = some ⟨.type "tuple", none, .seq us.toArray n, sl⟩) (hz : us.length ≤ 1000) (r : Wrs K us ds) (hw : PyData.tuple ds ∈ Wtp.W) : Wr K (.ref p) (.tuple ds) := by
  obtain ⟨vs, h1, h2⟩ := r
  exact ⟨.ref p, rfl, fun H Z => .tup (.inr (.inl ⟨.inr ⟨_, us.toArray, n, l, rfl, rfl, by have := line_lim; simp; omega, by simpa using h1⟩, hw, ⟨_, l, rfl, rfl⟩⟩)) (h2 H Z)⟩
end
theorem gw_of {h : Heap} {u : Value} {y : PyData} (inK : M.K.In h) (G : h.Ns mainGlobals M.mg) (a : PySem.W.nsIn M.K mainGlobals x = some (some u)) (w : Wr M.K u y) : Gw M x y := by
  obtain ⟨v, h1, h2⟩ := w
  exact ⟨u, v, PySem.W.mg_of inK G a, h1, h2⟩
theorem gix_of {h : Heap} {p : Addr} {us : List Value} {n : Nat} {sl : Array (Option Value)} {ys : List Str} (inK : M.K.In h) (G : h.Ns mainGlobals M.mg) (a : PySem.W.nsIn M.K mainGlobals x = some (some (.ref p))) (l : M.K.lookup p = some ⟨.type "tuple", none, .seq us.toArray n, sl⟩)
    (hz : us.length ≤ 1000) (hv : Vals (ys.map V.str) us) : Gix M x ys :=
  ⟨p, PySem.W.mg_of inK G a, fun H => .inr ⟨_, us.toArray, n, l, rfl, rfl, by have := line_lim; simp; omega, by simpa using hv⟩, _, l, rfl, rfl⟩
end
end
section
variable [Wtp] [Tbl]
/-! ## reading a def on data -/
section
variable {α β : Type} (env : En) (st : Sto)
@[simp] theorem x_var (i : Nat) : eVar i env st = match env[i]? with
  | some (some w) => .ok w st
  | _ => .no := rfl
@[simp] theorem x_k (x : PyData) : eK x env st = .ok (.d x) st := rfl
@[simp] theorem x_op2 (f : PyData → PyData → Option PyData) (a b : En → Sto → Rs Wv) : eOp2 f a b env st = (a env st).bind fun v st1 => (b env st1).bind fun w st2 => look1 v st2 fun d => look1 w st2 fun e => ret1 (f d e) st2 := rfl
@[simp] theorem x_op1 (f : PyData → Option PyData) (a : En → Sto → Rs Wv) : eOp1 f a env st = (a env st).bind fun v st1 => look1 v st1 fun d => ret1 (f d) st1 := rfl
@[simp] theorem x_nil : aNil env st = .ok [] st := rfl
@[simp] theorem x_cons (a : En → Sto → Rs Wv) (b : En → Sto → Rs (List Wv)) : aCons a b env st = (a env st).bind fun v st1 => (b env st1).bind fun r st2 => .ok (v :: r) st2 := rfl
end
def srcW (w : Wv) (st1 : Sto) : Rs Sc := match w with
  | .d (.str x) => .ok ⟨x.cps.toList.map sgnD, []⟩ st1
  | .d (.dict es) => if kF es then .ok ⟨es.map (·.1), []⟩ st1 else .no
  | w => match seqW w st1 with
    | some sc => .ok sc st1
    | none => .no
def rg1W (ws : List Wv) (st1 : Sto) : Rs Sc := match ws with
  | [.d (.int j)] => if rgOk j then .ok ⟨rangeD 0 j.toNat, []⟩ st1 else .no
  | _ => .no
def rg2W (ws : List Wv) (st1 : Sto) : Rs Sc := match ws with
  | [.d (.int i), .d (.int j)] => if rgOk i && rgOk j then .ok ⟨rangeD i (j - i).toNat, []⟩ st1 else .no
  | _ => .no
def rgdW (ws : List Wv) (st1 : Sto) : Rs Sc := match ws with
  | [.d (.int i), .d (.int j), .d (.int (-1))] => if rgOk i && rgOk j then .ok ⟨downD i (i - j).toNat, []⟩ st1 else .no
  | _ => .no
def enumW (ws : List Wv) (st1 : Sto) : Rs Sc := match ws with
  | [u] => match seqW u st1 with
    | some a => .ok ⟨enumD a.xs, a.lv⟩ st1
    | _ => .no
  | _ => .no
def zip2W (ws : List Wv) (st1 : Sto) : Rs Sc := match ws with
  | [u, v] => match seqW u st1, seqW v st1 with
    | some a, some b => .ok ⟨List.zipWith pairD a.xs b.xs, a.lv ++ b.lv⟩ st1
    | _, _ => .no
  | _ => .no
def zip3W (ws : List Wv) (st1 : Sto) : Rs Sc := match ws with
  | [u, v, w] => match seqW u st1, seqW v st1, seqW w st1 with
    | some a, some b, some c => .ok ⟨zip3 a.xs b.xs c.xs, (a.lv ++ b.lv) ++ c.lv⟩ st1
    | _, _, _ => .no
  | _ => .no
def tupW (ws : List Wv) (st1 : Sto) : Rs Wv := match allD ws with
  | some ds => if ds.length ≤ 1000000 then .ok (.d (.tuple ds)) st1 else .no
  | none => .no
def lstW (ws : List Wv) (st1 : Sto) : Rs Wv := match allD ws with
  | some ds => if ds.length ≤ 1000000 then .ok (.d (.list ds)) st1 else .no
  | none => .no
def newW (ws : List Wv) (st1 : Sto) : Rs Wv := match allD ws with
  | some ds => if ds.length ≤ 1000000 then .ok (.r st1.length) (st1 ++ [.lst ds]) else .no
  | none => .no
def gixW (ys : List Str) (ws : List Wv) (st1 : Sto) : Rs Wv := match ws with
  | [.d (.str z)] => match idxS ys z with
    | some i => .ok (.d (.int (i : Nat))) st1
    | none => .no
  | _ => .no
@[simp] theorem x_opN (env : En) (st : Sto) (f : List PyData → Option PyData) (c : En → Sto → Rs (List Wv)) : eOpN f c env st = ((c env st).bind fun ws st1 => match looks ws st1 with | some ds => ret1 (f ds) st1 | none => .no) := rfl
@[simp] theorem x_tru (env : En) (st : Sto) (c : En → Sto → Rs Wv) : tTru c env st = ((c env st).bind tru) := rfl
@[simp] theorem x_and (env : En) (st : Sto) (a b : En → Sto → Rs Bool) : tAnd2 a b env st = ((a env st).bind fun x st1 => if x = true then b env st1 else .ok false st1) := rfl
@[simp] theorem x_or (env : En) (st : Sto) (a b : En → Sto → Rs Bool) : tOr2 a b env st = ((a env st).bind fun x st1 => if x = true then .ok true st1 else b env st1) := rfl
@[simp] theorem x_not (env : En) (st : Sto) (a : En → Sto → Rs Bool) : tNot1 a env st = ((a env st).bind fun x st1 => .ok (!x) st1) := rfl
@[simp] theorem x_eand (env : En) (st : Sto) (a b : En → Sto → Rs Wv) : eAnd2 a b env st = ((a env st).bind fun w st1 => (tru w st1).bind fun x st2 => if x = true then b env st2 else .ok w st2) := rfl
@[simp] theorem x_eor (env : En) (st : Sto) (a b : En → Sto → Rs Wv) : eOr2 a b env st = ((a env st).bind fun w st1 => (tru w st1).bind fun x st2 => if x = true then .ok w st2 else b env st2) := rfl
@[simp] theorem x_enot (env : En) (st : Sto) (a : En → Sto → Rs Wv) : eNot1 a env st = ((a env st).bind fun w st1 => (tru w st1).bind fun x st2 => .ok (.d (.bool (!x))) st2) := rfl
@[simp] theorem x_eif (env : En) (st : Sto) (t : En → Sto → Rs Bool) (a b : En → Sto → Rs Wv) : eIf t a b env st = ((t env st).bind fun x st1 => if x = true then a env st1 else b env st1) := rfl
@[simp] theorem x_bl (env : En) (st : Sto) (c : En → Sto → Rs Wv) : tBl c env st = ((c env st).bind fun w st1 => match w with | .d (.bool b) => .ok b st1 | _ => .no) := rfl
@[simp] theorem x_newd (env : En) (st : Sto)  : eNewD env st = (.ok (.r st.length) (st ++ [.dct []])) := rfl
def sixTW (env : En) (x w : Wv) (js : List Wv) (st3 : Sto) : SR := match x with
  | .d y => match allD js with
    | some ds => if ds.length ≤ 1000000 then (match setWT w (.tuple ds) y st3 with
      | some st4 => .nx env st4
      | none => .no) else .no
    | none => .no
  | _ => .no
@[simp] theorem x_sixt (env : En) (st : Sto) (co : En → Sto → Rs Wv) (cs : En → Sto → Rs (List Wv)) (ce : En → Sto → Rs Wv) : sIxT co cs ce env st = ((ce env st).sb fun x st1 => (co env st1).sb fun w st2 => (cs env st2).sb (sixTW env x w)) := rfl
@[simp] theorem x_newt (env : En) (st : Sto) : eNewT env st = (.ok (.r st.length) (st ++ [.dtt []])) := rfl
@[simp] theorem x_dic0 (env : En) (st : Sto)  : eDic0 env st = (.ok (.d (.dict [])) st) := rfl
@[simp] theorem x_slice (env : En) (st : Sto) (c : En → Sto → Rs Wv) (l h : En → Sto → Rs (Option Int)) : eSlice c l h env st = ((c env st).bind fun w st1 => (l env st1).bind fun i st2 => (h env st2).bind fun j st3 => look1 w st3 fun d => ret1 (slD i j d) st3) := rfl
@[simp] theorem x_pno (env : En) (st : Sto)  : pNo env st = (.ok none st) := rfl
@[simp] theorem x_psome (env : En) (st : Sto) (c : En → Sto → Rs Wv) : pSome c env st = ((c env st).bind fun w st1 => match w with | .d (.int i) => .ok (some i) st1 | _ => .no) := rfl
@[simp] theorem x_snil (env : En) (st : Sto)  : sNil env st = (.nx env st) := rfl
@[simp] theorem x_seq (env : En) (st : Sto) (a b : En → Sto → SR) : sSeq a b env st = ((a env st).seq b) := rfl
@[simp] theorem x_set (env : En) (st : Sto) (i : Nat) (c : En → Sto → Rs Wv) : sSet i c env st = ((c env st).sb fun w st1 => .nx (env.set i (some w)) st1) := rfl
@[simp] theorem x_ret (env : En) (st : Sto) (c : En → Sto → Rs Wv) : sRet c env st = ((c env st).sb fun w st1 => .rt (.w w) st1) := rfl
@[simp] theorem x_retf (env : En) (st : Sto) (c : En → Sto → Rs Wv) : sRetF c env st = ((c env st).sb fun w st1 => .rt (.f w) st1) := rfl
@[simp] theorem x_rett (env : En) (st : Sto) (c : En → Sto → Rs (List Wv)) : sRetT c env st = ((c env st).sb fun ws st1 => if ws.length ≤ 1000 then .rt (.ft ws) st1 else .no) := rfl
@[simp] theorem x_retn (env : En) (st : Sto)  : sRetN env st = (.rt (.w (.d .none)) st) := rfl
@[simp] theorem x_exp (env : En) (st : Sto) (c : En → Sto → Rs Wv) : sExp c env st = ((c env st).sb fun _ st1 => .nx env st1) := rfl
@[simp] theorem x_if (env : En) (st : Sto) (t : En → Sto → Rs Bool) (a b : En → Sto → SR) : sIf t a b env st = ((t env st).sb fun x st1 => if x = true then a env st1 else b env st1) := rfl
@[simp] theorem x_sno (env : En) (st : Sto)  : sNo env st = (.no) := rfl
@[simp] theorem x_asg (env : En) (st : Sto) (g : Wv → En → Option En) (c : En → Sto → Rs Wv) : sAsg g c env st = ((c env st).sb fun w st1 => match g w env with | some env' => .nx env' st1 | none => .no) := rfl
@[simp] theorem x_par2 (env : En) (st : Sto) (i j : Nat) (c : En → Sto → Rs (List Wv)) : sPar2 i j c env st = ((c env st).sb fun ws st1 => match ws with | [v, w] => .nx ((env.set i (some v)).set j (some w)) st1 | _ => .no) := rfl
@[simp] theorem x_par3 (env : En) (st : Sto) (i j l : Nat) (c : En → Sto → Rs (List Wv)) : sPar3 i j l c env st = ((c env st).sb fun ws st1 => match ws with | [u, v, w] => .nx (((env.set i (some u)).set j (some v)).set l (some w)) st1 | _ => .no) := rfl
@[simp] theorem x_for (env : En) (st : Sto) (ci : En → Sto → Rs Sc) (g : Wv → En → Option En) (b : En → Sto → SR) : sFor ci g b env st = ((ci env st).sb fun sc st1 => forL g b sc.lv sc.xs env st1) := rfl
@[simp] theorem x_clc (env : En) (st : Sto) (ci : En → Sto → Rs Sc) (g : Wv → En → Option En) (t : En → Sto → Rs Bool) (c : En → Sto → Rs Wv) (vs : List Nat) : cLc ci g t c vs env st = ((ci env st).bind fun sc st1 => if sc.xs.length ≤ 1000000 then lcL g t c sc.lv (wipeE env vs) sc.xs [] st1 else .no) := rfl
@[simp] theorem x_lc (env : En) (st : Sto) (ci : En → Sto → Rs Sc) (g : Wv → En → Option En) (t : En → Sto → Rs Bool) (c : En → Sto → Rs Wv) (vs : List Nat) : eLc ci g t c vs env st = ((cLc ci g t c vs env st).bind fun ys st2 => .ok (.d (.list ys)) st2) := rfl
@[simp] theorem x_lcn (env : En) (st : Sto) (ci : En → Sto → Rs Sc) (g : Wv → En → Option En) (t : En → Sto → Rs Bool) (c : En → Sto → Rs Wv) (vs : List Nat) : eLcN ci g t c vs env st = ((cLc ci g t c vs env st).bind fun ys st2 => .ok (.r st2.length) (st2 ++ [.lst ys])) := rfl
@[simp] theorem x_yes (env : En) (st : Sto)  : tYs env st = (.ok true st) := rfl
@[simp] theorem x_meth (env : En) (st : Sto) (g : Wv → List Wv → Sto → Rs Wv) (co : En → Sto → Rs Wv) (cs : En → Sto → Rs (List Wv)) : eM g co cs env st = ((co env st).bind fun w st1 => if isLst st1 w = true then (cs env st1).bind fun ws st2 => g w ws st2 else .no) := rfl
@[simp] theorem x_call (env : En) (st : Sto) (mf : List Wv → Sto → Rs Wv) (cs : En → Sto → Rs (List Wv)) : eCall mf cs env st = ((cs env st).bind mf) := rfl
@[simp] theorem x_seqs (env : En) (st : Sto) (c : En → Sto → Rs Wv) : cSeq c env st = ((c env st).bind srcW) := rfl
@[simp] theorem x_rg1 (env : En) (st : Sto) (c : En → Sto → Rs (List Wv)) : cRg1 c env st = ((c env st).bind rg1W) := rfl
@[simp] theorem x_rg2 (env : En) (st : Sto) (c : En → Sto → Rs (List Wv)) : cRg2 c env st = ((c env st).bind rg2W) := rfl
@[simp] theorem x_rgd (env : En) (st : Sto) (c : En → Sto → Rs (List Wv)) : cRgD c env st = ((c env st).bind rgdW) := rfl
@[simp] theorem x_enum (env : En) (st : Sto) (c : En → Sto → Rs (List Wv)) : cEnum c env st = ((c env st).bind enumW) := rfl
@[simp] theorem x_zip2 (env : En) (st : Sto) (c : En → Sto → Rs (List Wv)) : cZip2 c env st = ((c env st).bind zip2W) := rfl
@[simp] theorem x_zip3 (env : En) (st : Sto) (c : En → Sto → Rs (List Wv)) : cZip3 c env st = ((c env st).bind zip3W) := rfl
@[simp] theorem x_tup (env : En) (st : Sto) (c : En → Sto → Rs (List Wv)) : eTup c env st = ((c env st).bind tupW) := rfl
@[simp] theorem x_lst (env : En) (st : Sto) (c : En → Sto → Rs (List Wv)) : eLst c env st = ((c env st).bind lstW) := rfl
@[simp] theorem x_newl (env : En) (st : Sto) (c : En → Sto → Rs (List Wv)) : eNewL c env st = ((c env st).bind newW) := rfl
@[simp] theorem x_gix (env : En) (st : Sto) (ys : List Str) (c : En → Sto → Rs (List Wv)) : eGix ys c env st = ((c env st).bind (gixW ys)) := rfl
def chW (o : Option PyData) (k : Rs Wv) (st : Sto) : Rs Wv := match o with
  | some (.bool true) => k
  | some (.bool false) => .ok (.d (.bool false)) st
  | _ => .no
@[simp] theorem chW_b (b : Bool) (k : Rs Wv) (st : Sto) : chW (some (.bool b)) k st = if b = true then k else .ok (.d (.bool false)) st := by cases b <;> rfl
@[simp] theorem x_chain (env : En) (st : Sto) (f g : PyData → PyData → Option PyData) (a b c : En → Sto → Rs Wv) : eChain f g a b c env st = ((a env st).bind fun v st1 => (b env st1).bind fun w st2 => look1 v st2 fun d => look1 w st2 fun e => chW (f d e) ((c env st2).bind fun z st3 => look1 w st3 fun e' => look1 z st3 fun y => ret1 (g e' y) st3) st2) := rfl
@[simp] theorem if_a (p : Prop) [Decidable p] (x : Bool) (st : Sto) : (if p then Rs.ok (Wv.d (.bool x)) st else Rs.ok (Wv.d (.bool false)) st) = Rs.ok (Wv.d (.bool (decide p && x))) st := by by_cases h : p <;> simp [h]
@[simp] theorem if_o (p : Prop) [Decidable p] (x : Bool) (st : Sto) : (if p then Rs.ok (Wv.d (.bool true)) st else Rs.ok (Wv.d (.bool x)) st) = Rs.ok (Wv.d (.bool (decide p || x))) st := by by_cases h : p <;> simp [h]
@[simp] theorem if_c (p : Prop) [Decidable p] (x : Bool) (st : Sto) : (if p then Rs.ok (Wv.d (.bool false)) st else Rs.ok (Wv.d (.bool x)) st) = Rs.ok (Wv.d (.bool (!decide p && x))) st := by by_cases h : p <;> simp [h]
@[simp] theorem if_d (p : Prop) [Decidable p] (x : Bool) (st : Sto) : (if p then Rs.ok (Wv.d (.bool x)) st else Rs.ok (Wv.d (.bool true)) st) = Rs.ok (Wv.d (.bool (!decide p || x))) st := by by_cases h : p <;> simp [h]
@[simp] theorem if_ta (p : Prop) [Decidable p] (x : Bool) (st : Sto) : (if p then Rs.ok x st else Rs.ok false st) = Rs.ok (decide p && x) st := by by_cases h : p <;> simp [h]
@[simp] theorem if_to (p : Prop) [Decidable p] (x : Bool) (st : Sto) : (if p then Rs.ok true st else Rs.ok x st) = Rs.ok (decide p || x) st := by by_cases h : p <;> simp [h]
@[simp] theorem if_tc (p : Prop) [Decidable p] (x : Bool) (st : Sto) : (if p then Rs.ok false st else Rs.ok x st) = Rs.ok (!decide p && x) st := by by_cases h : p <;> simp [h]
@[simp] theorem if_td (p : Prop) [Decidable p] (x : Bool) (st : Sto) : (if p then Rs.ok x st else Rs.ok true st) = Rs.ok (!decide p || x) st := by by_cases h : p <;> simp [h]
@[simp] theorem if_a2 (b x : Bool) (st : Sto) : (if b = true then Rs.ok (Wv.d (.bool x)) st else Rs.ok (Wv.d (.bool b)) st) = Rs.ok (Wv.d (.bool (b && x))) st := by cases b <;> rfl
@[simp] theorem if_o2 (b x : Bool) (st : Sto) : (if b = true then Rs.ok (Wv.d (.bool b)) st else Rs.ok (Wv.d (.bool x)) st) = Rs.ok (Wv.d (.bool (b || x))) st := by cases b <;> rfl
noncomputable def sixW (env : En) (w j x : Wv) (st3 : Sto) : SR := match x with
  | .d y => match setW w j y st3 with
    | some st4 => .nx env st4
    | none => .no
  | _ => .no
@[simp] theorem x_six (env : En) (st : Sto) (co ci ce : En → Sto → Rs Wv) : sIx co ci ce env st = (ce env st).sb fun x st1 => (co env st1).sb fun w st2 => (ci env st2).sb fun j st3 => sixW env w j x st3 := rfl
@[simp] theorem x_gN (i : Nat) (w : Wv) (env : En) : gN i w env = some (env.set i (some w)) := rfl
@[simp] theorem x_gTp (g : List PyData → En → Option En) (xs : List PyData) (env : En) : gTp g (.d (.tuple xs)) env = g xs env := rfl
@[simp] theorem x_gNl (env : En) : gNl [] env = some env := rfl
@[simp] theorem x_gCn (g : Wv → En → Option En) (h : List PyData → En → Option En) (x : PyData) (r : List PyData) (env : En) : gCn g h (x :: r) env = (g (.d x) env).bind (h r) := rfl
@[simp] theorem x_mk (np N : Nat) (b : En → Sto → SR) (ws : List Wv) (st : Sto) : mkF np N b ws st = if ws.length = np then endS st.length (b (ws.map some ++ List.replicate (N - ws.length) none) st) else .no := rfl
@[simp] theorem x_end_nx (n : Nat) (env : En) (st : Sto) : endS n (.nx env st) = .ok (.d .none) (st.take n) := rfl
@[simp] theorem x_end_d (n : Nat) (x : PyData) (st : Sto) : endS n (.rt (.w (.d x)) st) = .ok (.d x) (st.take n) := rfl
@[simp] theorem x_end_fd (n : Nat) (x : PyData) (st : Sto) : endS n (.rt (.f (Wv.d x)) st) = .ok (.d x) (st.take n) := rfl
theorem x_end_r {n i : Nat} {st : Sto} {o : Ob} (hi : n ≤ i) (h : st[i]? = some o) : endS n (.rt (.w (.r i)) st) = .ok (.r n) (st.take n ++ [o]) := by
  show (if i < n then Rs.ok (Wv.r i) (st.take n) else match st[i]? with | some o => Rs.ok (Wv.r n) (st.take n ++ [o]) | none => .no) = _
  rw [if_neg (by omega), h]
/-! ## the operations on data -/
@[simp] theorem o_add_i (i j : Int) : addD (.int i) (.int j) = some (.int (i + j)) := rfl
@[simp] theorem o_add_t (xs ys : List PyData) : addD (.tuple xs) (.tuple ys) = if xs.length + ys.length ≤ 1000000 then some (.tuple (xs ++ ys)) else none := rfl
@[simp] theorem o_add_l (xs ys : List PyData) : addD (.list xs) (.list ys) = if xs.length + ys.length ≤ 1000000 then some (.list (xs ++ ys)) else none := rfl
@[simp] theorem o_sub_i (i j : Int) : subD (.int i) (.int j) = some (.int (i - j)) := rfl
@[simp] theorem o_mul_i (i j : Int) : mulD (.int i) (.int j) = if bigOk i j = true then some (.int (i * j)) else none := rfl
@[simp] theorem o_mul_t (xs : List PyData) (k : Int) : mulD (.tuple xs) (.int k) = if k = 1 then some (.tuple xs) else if 2 ≤ k ∧ k ≤ 1000 ∧ xs.length ≤ 1000 ∧ xs ≠ [] then some (.tuple (List.replicate k.toNat xs).flatten) else if xs = [] ∧ 0 ≤ k ∧ k ≤ 1000 then some (.tuple []) else none := rfl
@[simp] theorem o_mul_l (xs : List PyData) (k : Int) : mulD (.list xs) (.int k) = if 0 ≤ k ∧ k ≤ 1000 ∧ xs.length ≤ 1000 then some (.list (List.replicate k.toNat xs).flatten) else none := rfl
@[simp] theorem o_div_i (i j : Int) : divD (.int i) (.int j) = if 0 < j ∧ j < 1073741824 then some (.int (i / j)) else if 0 < j ∧ j < 1606938044258990275541962092341162602522202993782792835301376 then some (.int (i / j)) else none := rfl
@[simp] theorem o_mod_i (i j : Int) : modD (.int i) (.int j) = if 0 < j then some (.int (i % j)) else none := rfl
@[simp] theorem o_pow_i (i j : Int) : powD (.int i) (.int j) = if 0 ≤ j ∧ j ≤ 1000 ∧ i.natAbs < 18446744073709551616 then some (.int (i ^ j.toNat)) else none := rfl
@[simp] theorem o_neg_i (i : Int) : negD (.int i) = some (.int (-i)) := rfl
@[simp] theorem o_eq_i (i j : Int) : eqD (.int i) (.int j) = some (.bool (i == j)) := rfl
@[simp] theorem o_ne_i (i j : Int) : neD (.int i) (.int j) = some (.bool (!(i == j))) := rfl
@[simp] theorem o_eq_b (i j : Bool) : eqD (.bool i) (.bool j) = some (.bool (i == j)) := rfl
@[simp] theorem o_ne_b (i j : Bool) : neD (.bool i) (.bool j) = some (.bool (!(i == j))) := rfl
@[simp] theorem o_eq_s (i j : Str) : eqD (.str i) (.str j) = some (.bool (i == j)) := rfl
@[simp] theorem o_ne_s (i j : Str) : neD (.str i) (.str j) = some (.bool (!(i == j))) := rfl
@[simp] theorem o_lt_i (i j : Int) : ltD (.int i) (.int j) = some (.bool (decide (i < j))) := rfl
@[simp] theorem o_gt_i (i j : Int) : gtD (.int i) (.int j) = some (.bool (decide (j < i))) := rfl
@[simp] theorem o_le_i (i j : Int) : leD (.int i) (.int j) = some (.bool (decide (i ≤ j))) := rfl
@[simp] theorem o_ge_i (i j : Int) : geD (.int i) (.int j) = some (.bool (decide (j ≤ i))) := rfl
@[simp] theorem o_is_n (a : PyData) : isND a .none = some (.bool (isNone a)) := rfl
@[simp] theorem o_nt_n (a : PyData) : ntND a .none = some (.bool (!isNone a)) := rfl
@[simp] theorem o_ix_t (xs : List PyData) (i : Int) : ixD (.tuple xs) (.int i) = atD xs i := rfl
@[simp] theorem o_ix_l (xs : List PyData) (i : Int) : ixD (.list xs) (.int i) = atD xs i := rfl
@[simp] theorem o_sl_t (xs : List PyData) (i j : Option Int) : slD i j (.tuple xs) = some (.tuple (cutD xs i j)) := rfl
@[simp] theorem o_sl_l (xs : List PyData) (i j : Option Int) : slD i j (.list xs) = some (.list (cutD xs i j)) := rfl
@[simp] theorem o_len_t (xs : List PyData) : lenF [.tuple xs] = some (.int xs.length) := rfl
@[simp] theorem o_len_l (xs : List PyData) : lenF [.list xs] = some (.int xs.length) := rfl
@[simp] theorem o_tup_t (xs : List PyData) : tupF [.tuple xs] = some (.tuple xs) := rfl
@[simp] theorem o_tup_l (xs : List PyData) : tupF [.list xs] = some (.tuple xs) := rfl
@[simp] theorem o_lst_t (xs : List PyData) : lstF [.tuple xs] = some (.list xs) := rfl
@[simp] theorem o_lst_l (xs : List PyData) : lstF [.list xs] = some (.list xs) := rfl
@[simp] theorem o_int_i (i : Int) : intF [.int i] = some (.int i) := rfl
@[simp] theorem o_int_b (b : Bool) : intF [.bool b] = some (.int (if b then 1 else 0)) := rfl
@[simp] theorem o_max2 (i j : Int) : max2F [.int i, .int j] = some (.int (if j > i then j else i)) := rfl
@[simp] theorem o_min2 (i j : Int) : min2F [.int i, .int j] = some (.int (if j < i then j else i)) := rfl
@[simp] theorem o_all (bs : List Bool) : allF [.list (bs.map .bool)] = some (.bool (bs.all id)) := by show (boolsOf _).map _ = _; rw [boolsOf_map]; rfl
@[simp] theorem o_sum_l (ns : List Int) : sumF [.list (ns.map .int)] = some (.int ns.sum) := by show (intsOf _).map _ = _; rw [intsOf_map]; rfl
@[simp] theorem o_sum_t (ns : List Int) : sumF [.tuple (ns.map .int)] = some (.int ns.sum) := by show (intsOf _).map _ = _; rw [intsOf_map]; rfl
@[simp] theorem tru_i (i : Int) (st : Sto) : tru (.d (.int i)) st = .ok (!(i == 0)) st := rfl
theorem atD_nat {α : Type} {xs : List α} {i : Nat} : atD xs (i : Nat) = xs[i]? := by
  unfold atD
  unfold ixN
  rw [if_pos (by omega)]
  split
  · simp
  · simp; omega
@[simp] theorem atD_0 {α : Type} (x : α) (xs : List α) : atD (x :: xs) 0 = some x := atD_nat (i := 0)
@[simp] theorem atD_1 {α : Type} (x y : α) (xs : List α) : atD (x :: y :: xs) 1 = some y := atD_nat (i := 1)
@[simp] theorem atD_2 {α : Type} (x y z : α) (xs : List α) : atD (x :: y :: z :: xs) 2 = some z := atD_nat (i := 2)
@[simp] theorem atD_3 {α : Type} (x y z w : α) (xs : List α) : atD (x :: y :: z :: w :: xs) 3 = some w := atD_nat (i := 3)
@[simp] theorem isa_int_none  : isaD "int" .none = some (.bool false) := rfl
@[simp] theorem isa_int_bool (b : Bool) : isaD "int" (.bool b) = some (.bool true) := rfl
@[simp] theorem isa_int_int (i : Int) : isaD "int" (.int i) = some (.bool true) := rfl
@[simp] theorem isa_int_str (x : Str) : isaD "int" (.str x) = some (.bool false) := rfl
@[simp] theorem isa_int_list (xs : List PyData) : isaD "int" (.list xs) = some (.bool false) := rfl
@[simp] theorem isa_int_tuple (xs : List PyData) : isaD "int" (.tuple xs) = some (.bool false) := rfl
@[simp] theorem isa_int_dict (es : List (PyData × PyData)) : isaD "int" (.dict es) = some (.bool false) := rfl
@[simp] theorem isa_bool_none  : isaD "bool" .none = some (.bool false) := rfl
@[simp] theorem isa_bool_bool (b : Bool) : isaD "bool" (.bool b) = some (.bool true) := rfl
@[simp] theorem isa_bool_int (i : Int) : isaD "bool" (.int i) = some (.bool false) := rfl
@[simp] theorem isa_bool_str (x : Str) : isaD "bool" (.str x) = some (.bool false) := rfl
@[simp] theorem isa_bool_list (xs : List PyData) : isaD "bool" (.list xs) = some (.bool false) := rfl
@[simp] theorem isa_bool_tuple (xs : List PyData) : isaD "bool" (.tuple xs) = some (.bool false) := rfl
@[simp] theorem isa_bool_dict (es : List (PyData × PyData)) : isaD "bool" (.dict es) = some (.bool false) := rfl
@[simp] theorem isa_str_none  : isaD "str" .none = some (.bool false) := rfl
@[simp] theorem isa_str_bool (b : Bool) : isaD "str" (.bool b) = some (.bool false) := rfl
@[simp] theorem isa_str_int (i : Int) : isaD "str" (.int i) = some (.bool false) := rfl
@[simp] theorem isa_str_str (x : Str) : isaD "str" (.str x) = some (.bool true) := rfl
@[simp] theorem isa_str_list (xs : List PyData) : isaD "str" (.list xs) = some (.bool false) := rfl
@[simp] theorem isa_str_tuple (xs : List PyData) : isaD "str" (.tuple xs) = some (.bool false) := rfl
@[simp] theorem isa_str_dict (es : List (PyData × PyData)) : isaD "str" (.dict es) = some (.bool false) := rfl
@[simp] theorem isa_tuple_none  : isaD "tuple" .none = some (.bool false) := rfl
@[simp] theorem isa_tuple_bool (b : Bool) : isaD "tuple" (.bool b) = some (.bool false) := rfl
@[simp] theorem isa_tuple_int (i : Int) : isaD "tuple" (.int i) = some (.bool false) := rfl
@[simp] theorem isa_tuple_str (x : Str) : isaD "tuple" (.str x) = some (.bool false) := rfl
@[simp] theorem isa_tuple_list (xs : List PyData) : isaD "tuple" (.list xs) = some (.bool false) := rfl
@[simp] theorem isa_tuple_tuple (xs : List PyData) : isaD "tuple" (.tuple xs) = some (.bool true) := rfl
@[simp] theorem isa_tuple_dict (es : List (PyData × PyData)) : isaD "tuple" (.dict es) = some (.bool false) := rfl
@[simp] theorem isa_list_none  : isaD "list" .none = some (.bool false) := rfl
@[simp] theorem isa_list_bool (b : Bool) : isaD "list" (.bool b) = some (.bool false) := rfl
@[simp] theorem isa_list_int (i : Int) : isaD "list" (.int i) = some (.bool false) := rfl
@[simp] theorem isa_list_str (x : Str) : isaD "list" (.str x) = some (.bool false) := rfl
@[simp] theorem isa_list_list (xs : List PyData) : isaD "list" (.list xs) = some (.bool true) := rfl
@[simp] theorem isa_list_tuple (xs : List PyData) : isaD "list" (.tuple xs) = some (.bool false) := rfl
@[simp] theorem isa_list_dict (es : List (PyData × PyData)) : isaD "list" (.dict es) = some (.bool false) := rfl
@[simp] theorem isa_dict_none  : isaD "dict" .none = some (.bool false) := rfl
@[simp] theorem isa_dict_bool (b : Bool) : isaD "dict" (.bool b) = some (.bool false) := rfl
@[simp] theorem isa_dict_int (i : Int) : isaD "dict" (.int i) = some (.bool false) := rfl
@[simp] theorem isa_dict_str (x : Str) : isaD "dict" (.str x) = some (.bool false) := rfl
@[simp] theorem isa_dict_list (xs : List PyData) : isaD "dict" (.list xs) = some (.bool false) := rfl
@[simp] theorem isa_dict_tuple (xs : List PyData) : isaD "dict" (.tuple xs) = some (.bool false) := rfl
@[simp] theorem isa_dict_dict (es : List (PyData × PyData)) : isaD "dict" (.dict es) = some (.bool true) := rfl
@[simp] theorem isN_n : isNone .none = true := rfl
@[simp] theorem isN_bool (b : Bool) : isNone (.bool b) = false := rfl
@[simp] theorem isN_int (i : Int) : isNone (.int i) = false := rfl
@[simp] theorem isN_str (x : Str) : isNone (.str x) = false := rfl
@[simp] theorem isN_list (xs : List PyData) : isNone (.list xs) = false := rfl
@[simp] theorem isN_tuple (xs : List PyData) : isNone (.tuple xs) = false := rfl
@[simp] theorem isN_dict (es : List (PyData × PyData)) : isNone (.dict es) = false := rfl
end
section
variable [Wtp] [Tbl]
/-! ## the store -/
@[simp] theorem end_new (st : Sto) (o : Ob) : endS st.length (.rt (.w (.r st.length)) (st ++ [o])) = .ok (.r st.length) (st ++ [o]) := by
  rw [x_end_r (o := o) (Nat.le_refl _) (by simp)]
  simp
@[simp] theorem take_set {α : Type} (xs : List α) (p : Nat) (x : α) : (xs.set p x).take xs.length = xs.set p x := List.take_of_length_le (by simp)
theorem look_l {i : Nat} {st : Sto} {xs : List PyData} (h : st[i]? = some (.lst xs)) : look st (.r i) = some (.list xs) := by
  show (match st[i]? with
    | some (.lst xs) => some (PyData.list xs)
    | some (.dct kvs) => some (.dict kvs)
    | some (.dtt kvs) => some (.dict kvs)
    | some (.lkd kvs) => some (.dict kvs)
    | some (.lkl xs) => some (.list xs)
    | some (.ins _ _) => none
    | none => none) = _
  rw [h]
theorem look1_l {i : Nat} {st : Sto} {xs : List PyData} (h : st[i]? = some (.lst xs)) (f : PyData → Rs Wv) : look1 (.r i) st f = f (.list xs) := by
  unfold look1
  rw [look_l h]
theorem isLst_l {i : Nat} {st : Sto} {xs : List PyData} (h : st[i]? = some (.lst xs)) : isLst st (.r i) = true := by
  unfold isLst
  simp [h]
theorem appW_l {i : Nat} {st : Sto} {xs : List PyData} (h : st[i]? = some (.lst xs)) (hl : xs.length < 1000000) (y : PyData) : appW (.r i) [.d y] st = .ok (.d .none) (st.set i (.lst (xs ++ [y]))) := by
  unfold appW
  simp [h, hl]
theorem setW_l {i : Nat} {st : Sto} {xs : List PyData} (h : st[i]? = some (.lst xs)) {t : Int} {q : Nat} (hq : ixN xs.length t = some q) (y : PyData) : setW (.r i) (.d (.int t)) y st = some (st.set i (.lst (xs.set q y))) := by
  unfold setW
  simp [h, hq]
theorem ixN_nat {n i : Nat} (h : i < n) : ixN n (i : Int) = some i := by
  unfold ixN
  rw [if_pos (by omega), if_pos (by omega)]
  simp
/-! ## pens: lists of three ints -/
def Pen (p : Nat) (st : Sto) : Prop := ∃ a b c : Int, st[p]? = some (.lst [.int a, .int b, .int c])
/-- only the pen at p is turned -/
structure Pn (p : Nat) (st st' : Sto) : Prop where
  len : st'.length = st.length
  pen : Pen p st'
  sm : ∀ i, i ≠ p → st'[i]? = st[i]?
/-- below n only the pen at p is turned -/
structure Px (p n : Nat) (st st' : Sto) : Prop where
  le : n ≤ st'.length
  pen : Pen p st'
  sm : ∀ i, i < n → i ≠ p → st'[i]? = st[i]?
section
variable {p n : Nat} {st st1 st2 : Sto}
theorem Pen.lt (h : Pen p st) : p < st.length := by
  obtain ⟨_, _, _, e⟩ := h
  exact (List.getElem?_eq_some_iff.mp e).1
theorem Pn.refl (h : Pen p st) : Pn p st st := ⟨rfl, h, fun _ _ => rfl⟩
theorem Pn.trans (a : Pn p st st1) (b : Pn p st1 st2) : Pn p st st2 := ⟨b.len.trans a.len, b.pen, fun i hi => (b.sm i hi).trans (a.sm i hi)⟩
theorem Pn.set (h : Pen p st) (a b c : Int) : Pn p st (st.set p (.lst [.int a, .int b, .int c])) :=
  ⟨by simp, ⟨a, b, c, List.getElem?_set_self h.lt⟩, fun i hi => List.getElem?_set_ne (Ne.symm hi)⟩
theorem Pen.app (h : Pen p st) (l : Sto) : Pen p (st ++ l) := by
  obtain ⟨a, b, c, e⟩ := id h
  exact ⟨a, b, c, by rw [List.getElem?_append_left h.lt]; exact e⟩
theorem Pen.put (h : Pen p st) {i : Nat} (hi : i ≠ p) (o : Ob) : Pen p (st.set i o) := by
  obtain ⟨a, b, c, e⟩ := id h
  exact ⟨a, b, c, by rw [List.getElem?_set_ne hi]; exact e⟩
theorem Px.refl (h : Pen p st) : Px p st.length st st := ⟨Nat.le_refl _, h, fun _ _ _ => rfl⟩
theorem Px.pn (a : Px p n st st1) (b : Pn p st1 st2) : Px p n st st2 := ⟨by rw [b.len]; exact a.le, b.pen, fun i hi hp => (b.sm i hp).trans (a.sm i hi hp)⟩
theorem Px.app (a : Px p n st st1) (l : Sto) : Px p n st (st1 ++ l) := ⟨by rw [List.length_append]; have := a.le; omega, a.pen.app l, fun i hi hp => by rw [List.getElem?_append_left (Nat.lt_of_lt_of_le hi a.le)]; exact a.sm i hi hp⟩
theorem Px.put (a : Px p n st st1) {i : Nat} (hi : n ≤ i) (hp : p < n) (o : Ob) : Px p n st (st1.set i o) :=
  ⟨by rw [List.length_set]; exact a.le, a.pen.put (by omega) o, fun j hj hq => by rw [List.getElem?_set_ne (by omega)]; exact a.sm j hj hq⟩
theorem Px.back (a : Px p st.length st st1) (hp : p < st.length) : Pn p st (st1.take st.length) := by
  have hl : (st1.take st.length).length = st.length := by rw [List.length_take]; have := a.le; omega
  refine ⟨hl, ?_, fun i hi => ?_⟩
  · obtain ⟨x, y, z, e⟩ := a.pen
    exact ⟨x, y, z, by rw [List.getElem?_take_of_lt hp]; exact e⟩
  · by_cases q : i < st.length
    · rw [List.getElem?_take_of_lt q]; exact a.sm i q hi
    · rw [List.getElem?_eq_none (by omega), List.getElem?_eq_none (by omega)]
theorem Pn.px (a : Pn p st st1) : Px p st.length st st1 := ⟨Nat.le_of_eq a.len.symm, a.pen, fun i _ hp => a.sm i hp⟩
end
theorem rg_ok {i : Int} (h1 : -1000000 ≤ i) (h2 : i ≤ 1000000) : rgOk i = true := by
  unfold rgOk
  rw [decide_eq_true (by omega), decide_eq_true (by omega)]
  rfl
theorem rg1_ok {i : Int} (st : Sto) (h1 : -1000000 ≤ i) (h2 : i ≤ 1000000) : rg1W [.d (.int i)] st = .ok ⟨rangeD 0 i.toNat, []⟩ st := by
  unfold rg1W
  simp [rg_ok h1 h2]
theorem rangeD_len (lo : Int) (n : Nat) : (rangeD lo n).length = n := by simp [rangeD]
theorem rangeD_get {lo : Int} {n i : Nat} {x : PyData} (h : (rangeD lo n)[i]? = some x) : i < n ∧ x = .int (lo + (i : Nat)) := by
  have hi : i < n := by have := (List.getElem?_eq_some_iff.mp h).1; rwa [rangeD_len] at this
  refine ⟨hi, ?_⟩
  unfold rangeD at h
  simp [hi] at h
  exact h.symm
theorem atD_mem {α : Type} {xs : List α} {i : Int} (h1 : 0 ≤ i) (h2 : i < xs.length) : ∃ x, x ∈ xs ∧ atD xs i = some x := by
  obtain ⟨k, rfl⟩ := Int.eq_ofNat_of_zero_le h1
  have hk : k < xs.length := by simpa using h2
  exact ⟨xs[k], List.getElem_mem hk, by rw [atD_nat, List.getElem?_eq_getElem hk]⟩
/-! ## loops on data -/
@[simp] theorem forL_nil (g : Wv → En → Option En) (b : En → Sto → SR) (env : En) (st : Sto) : forL g b [] [] env st = .nx env st := by simp [forL]
@[simp] theorem forL_cons (g : Wv → En → Option En) (b : En → Sto → SR) (x : PyData) (r : List PyData) (env : En) (st : Sto) : forL g b [] (x :: r) env st = match g (.d x) env with
    | some env1 => (b env1 st).seq (forL g b [] r)
    | none => .no := by cases h : g (.d x) env <;> simp [forL, h]
/-- every turn goes on -/
theorem forL_go {g : Wv → En → Option En} {b : En → Sto → SR} (I : En → Sto → Prop) : ∀ (xs : List PyData), (∀ x ∈ xs, ∀ env st, I env st → ∃ env1 env2 st2, g (.d x) env = some env1 ∧ b env1 st = .nx env2 st2 ∧ I env2 st2) →
    ∀ env st, I env st → ∃ env2 st2, forL g b [] xs env st = .nx env2 st2 ∧ I env2 st2
  | [], _, env, st, h => ⟨env, st, by simp, h⟩
  | x :: xs, q, env, st, h => by
    obtain ⟨env1, env2, st2, e1, e2, h2⟩ := q x (by simp) env st h
    obtain ⟨env3, st3, e3, h3⟩ := forL_go I xs (fun y hy => q y (by simp [hy])) env2 st2 h2
    exact ⟨env3, st3, by rw [forL_cons, e1]; simp [e2, e3], h3⟩
/-- every turn goes on, by its number -/
theorem forL_goI {g : Wv → En → Option En} {b : En → Sto → SR} (I : Nat → En → Sto → Prop) : ∀ (xs : List PyData) (k : Nat), (∀ i x, xs[i]? = some x → ∀ env st, I (k + i) env st → ∃ env1 env2 st2, g (.d x) env = some env1 ∧ b env1 st = .nx env2 st2 ∧ I (k + i + 1) env2 st2) →
    ∀ env st, I k env st → ∃ env2 st2, forL g b [] xs env st = .nx env2 st2 ∧ I (k + xs.length) env2 st2
  | [], k, _, env, st, h => ⟨env, st, by simp, h⟩
  | x :: xs, k, q, env, st, h => by
    obtain ⟨env1, env2, st2, e1, e2, h2⟩ := q 0 x rfl env st h
    obtain ⟨env3, st3, e3, h3⟩ := forL_goI I xs (k + 1) (fun i y hy env st hI => by
      have := q (i + 1) y (by simpa using hy) env st (by rw [show k + (i + 1) = k + 1 + i by omega]; exact hI)
      rw [show k + (i + 1) + 1 = k + 1 + i + 1 by omega] at this
      exact this) env2 st2 h2
    exact ⟨env3, st3, by rw [forL_cons, e1]; simp [e2, e3], by rw [List.length_cons, show k + (xs.length + 1) = k + 1 + xs.length by omega]; exact h3⟩
/-- a comprehension of a pure part -/
theorem lcL_map {g : Wv → En → Option En} {c : En → Sto → Rs Wv} {env : En} {st : Sto} {f : PyData → PyData} : ∀ (xs acc : List PyData), (∀ x ∈ xs, ∃ env1, g (.d x) env = some env1 ∧ c env1 st = .ok (.d (f x)) st) → lcL g tYs c [] env xs acc st = .ok (acc ++ xs.map f) st
  | [], acc, _ => by simp [lcL]
  | x :: xs, acc, q => by
    obtain ⟨env1, e1, e2⟩ := q x (by simp)
    have ih := lcL_map (f := f) (g := g) (c := c) (env := env) (st := st) xs (acc ++ [f x]) fun y hy => q y (by simp [hy])
    simp [lcL, e1, e2, ih]
theorem o_all' {α : Type} (xs : List α) (p : α → Bool) : allF [.list (xs.map fun x => .bool (p x))] = some (.bool (xs.all p)) := by
  have := o_all (xs.map p)
  rw [List.map_map] at this
  rw [show (fun x => PyData.bool (p x)) = PyData.bool ∘ p from rfl, this, List.all_map]
  rfl
theorem cutD_drop {α : Type} (xs : List α) (i : Nat) : cutD xs (some (i : Int)) none = xs.drop i := by
  unfold cutD
  rw [HT.sIx_nat, HT.sIx_none]
  rcases Nat.le_total i xs.length with h | h
  · rw [Nat.min_eq_left h, List.take_of_length_le (by simp)]
  · rw [Nat.min_eq_right h, List.drop_eq_nil_of_le h, List.drop_eq_nil_of_le (Nat.le_refl _)]; simp
theorem cutD_take {α : Type} (xs : List α) (i : Nat) : cutD xs none (some (i : Int)) = xs.take i := by
  unfold cutD
  rw [HT.sIx_nat, HT.sIx_none]
  simp
theorem cutD_sub {α : Type} {xs : List α} {lo hi : Option Int} {x : α} (h : x ∈ cutD xs lo hi) : x ∈ xs := List.mem_of_mem_drop (List.mem_of_mem_take h)
theorem cutD_len {α : Type} {xs : List α} {lo hi : Option Int} : (cutD xs lo hi).length ≤ xs.length := by
  unfold cutD
  rw [List.length_take, List.length_drop]
  omega
/-! ## what can be shown -/
structure Fd (k n : Nat) (d : PyData) : Prop where
  sh : d.showable = true
  hd : d.hasDict = false
  dp : d.depth ≤ k
  ln : d.shown.length ≤ n
theorem Fd.up {k k' n n' : Nat} {d : PyData} (f : Fd k n d) (h : k ≤ k') (h' : n ≤ n') : Fd k' n' d := ⟨f.sh, f.hd, Nat.le_trans f.dp h, Nat.le_trans f.ln h'⟩
theorem fd_int {i : Int} (h : i.natAbs < 10 ^ 40) : Fd 0 41 (.int i) := by
  refine ⟨?_, rfl, Nat.le_refl _, ?_⟩
  · show decide (i.natAbs.log2 < 1920) = true
    rw [decide_eq_true_eq]
    by_cases e : i.natAbs = 0
    · rw [e]; decide
    · rw [Nat.log2_lt e]
      exact Nat.lt_of_lt_of_le h (by decide +kernel)
  · show (Str.ofString (toString i)).length ≤ 41
    rw [ofString_len]
    exact int_text_length_le10 (by decide) h
theorem piled_le {n : Nat} : ∀ {ts : List Str}, (∀ t ∈ ts, t.length ≤ n) → piled ts ≤ ts.length * (n + 2)
  | [], _ => by simp [piled]
  | t :: ts, h => by
    have ih := piled_le (n := n) (ts := ts) fun u hu => h u (by simp [hu])
    have h1 := h t (by simp)
    rw [piled_cons, List.length_cons, Nat.succ_mul]
    omega
theorem join_le (ts : List Str) : (Str.join ", " ts).length ≤ piled ts := by
  by_cases h : ts = []
  · subst h; simp [piled]; rfl
  · have := join_length_add ts h; omega
theorem shownAll_map : ∀ xs : List PyData, PyData.shownAll xs = xs.map PyData.shown
  | [] => rfl
  | x :: xs => by rw [PyData.shownAll, shownAll_map xs]; rfl
theorem showableAll_all : ∀ xs : List PyData, PyData.showableAll xs = xs.all PyData.showable
  | [] => rfl
  | x :: xs => by rw [PyData.showableAll, showableAll_all xs]; rfl
theorem hasDictAll_any : ∀ xs : List PyData, PyData.hasDictAll xs = xs.any PyData.hasDict
  | [] => rfl
  | x :: xs => by rw [PyData.hasDictAll, hasDictAll_any xs]; rfl
theorem depthAll_le {k : Nat} : ∀ {xs : List PyData}, (∀ x ∈ xs, x.depth ≤ k) → PyData.depthAll xs ≤ k
  | [], _ => Nat.zero_le _
  | x :: xs, h => by
    rw [PyData.depthAll]
    exact Nat.max_le.mpr ⟨h x (by simp), depthAll_le fun y hy => h y (by simp [hy])⟩
theorem fd_tup {k n : Nat} {xs : List PyData} (L : Nat) (h : ∀ x ∈ xs, Fd k n x) (hl : xs.length ≤ L) : Fd (k + 1) (L * (n + 2) + 3) (.tuple xs) := by
  refine ⟨?_, ?_, Nat.succ_le_succ (depthAll_le fun x hx => (h x hx).dp), ?_⟩
  · rw [PyData.showable, showableAll_all, List.all_eq_true]; exact fun x hx => (h x hx).sh
  · rw [PyData.hasDict, hasDictAll_any, List.any_eq_false]; exact fun x hx => by rw [(h x hx).hd]; exact Bool.false_ne_true
  · show (tupleText (PyData.shownAll xs)).length ≤ _
    rw [shownAll_map]
    unfold tupleText
    rw [strLen_append, strLen_append]
    have e1 : ((("(" : String) : Str)).length = 1 := rfl
    have e3 : (((if (xs.map PyData.shown).length == 1 then ",)" else ")" : String) : Str)).length ≤ 2 := by split <;> decide
    have h4 := join_le (xs.map PyData.shown)
    have h5 := piled_le (n := n) (ts := xs.map PyData.shown) fun t ht => by
      obtain ⟨x, hx, rfl⟩ := List.mem_map.mp ht
      exact (h x hx).ln
    rw [List.length_map] at h5
    have h6 : xs.length * (n + 2) ≤ L * (n + 2) := Nat.mul_le_mul_right _ hl
    rw [e1]
    omega
/-- repr of what can be shown -/
theorem o_repr {k n : Nat} {d : PyData} (f : Fd k n d) (hk : k ≤ 40) (hn : n ≤ 16000000) : reprF [d] = some (.str d.shown) := by
  have ok : reprOk d = true := by
    unfold reprOk
    have h1 := Nat.le_trans f.dp hk
    have h2 := Nat.le_trans f.ln hn
    simp [f.sh, f.hd, h1, h2]
  unfold reprF
  split
  · rename_i e
    cases e
    exact absurd f.hd (by simp [PyData.hasDict])
  · rename_i d' _ e
    cases e
    rw [if_pos ok]
  · rename_i h1 h2
    exact absurd rfl (h2 d)
/-! ## slots that nothing reads any more are given up -/
def sWp (vs : List Nat) (b : En → Sto → SR) : En → Sto → SR := fun env st => (b env st).seq fun env1 st1 => .nx (wipeE env1 vs) st1
def sWi (vs : List Nat) (b : En → Sto → SR) : En → Sto → SR := fun env st => b (wipeE env vs) st
theorem EnvR.less {K : Frg} {n : Nat} {H : Hp} {m : Mp} {env : En} {σ : L2.St} (h : EnvR K H m n env σ) (i : Nat) : EnvR K H m n (env.set i none) σ := by
  refine ⟨by simp [h.len], fun j u e => ?_⟩
  by_cases q : i = j
  · subst q
    by_cases l : i < env.length
    · rw [List.getElem?_set_self l] at e; cases e
    · rw [List.getElem?_eq_none (by simpa using l)] at e; cases e
  · rw [List.getElem?_set_ne q] at e
    exact h.at' j u e
theorem EnvR.lesss {K : Frg} {n : Nat} {H : Hp} {m : Mp} {env : En} {σ : L2.St} (h : EnvR K H m n env σ) : ∀ vs : List Nat, EnvR K H m n (wipeE env vs) σ
  | [] => h
  | i :: vs => (EnvR.lesss h vs).less i
theorem db_wp {X : Cx} {es : List Stmt} {c : En → Sto → SR} (vs : List Nat) (h : DB X es c) : DB X es (sWp vs c) := by
  refine ⟨fun W tk => PSs.imp (h.pss W tk) fun D σ H ⟨m, env, st, S, R, hp⟩ => ⟨m, env, st, S, R, ?_⟩⟩
  unfold sWp at hp
  rw [SR.post_seq] at hp
  exact SR.post_mono hp (fun env1 st1 q σ1 H1 m1 f1 S1 R1 => q σ1 H1 m1 f1 S1 (R1.lesss vs)) (fun _ _ q => q) fun _ _ q => q
theorem ds_wi {X : Cx} {e : Stmt} {c : En → Sto → SR} (vs : List Nat) (h : DS X e c) : DS X e (sWi vs c) :=
  ⟨fun W tk => PS.imp (h.ps W tk) fun D σ H ⟨m, env, st, S, R, hp⟩ => ⟨m, wipeE env vs, st, S, R.lesss vs, hp⟩⟩
@[simp] theorem x_wp (vs : List Nat) (b : En → Sto → SR) (env : En) (st : Sto) : sWp vs b env st = (b env st).seq fun env1 st1 => .nx (wipeE env1 vs) st1 := rfl
@[simp] theorem x_wi (vs : List Nat) (b : En → Sto → SR) (env : En) (st : Sto) : sWi vs b env st = b (wipeE env vs) st := rfl
@[simp] theorem wipe_nil (env : En) : wipeE env [] = env := rfl
@[simp] theorem wipe_cons (env : En) (i : Nat) (vs : List Nat) : wipeE env (i :: vs) = (wipeE env vs).set i none := rfl
/-- what a loop that only seeks gives -/
def seek (r : Option Rt) (env : En) (st : Sto) : SR := match r with
  | some r => .rt r st
  | none => .nx env st
@[simp] theorem seek_some (r : Rt) (env : En) (st : Sto) : seek (some r) env st = .rt r st := rfl
@[simp] theorem seek_none (env : En) (st : Sto) : seek none env st = .nx env st := rfl
/-- a comprehension of typed things -/
theorem lcL_mapE {α : Type} {g : Wv → En → Option En} {c : En → Sto → Rs Wv} {env : En} {st : Sto} (enc out : α → PyData) : ∀ (L : List α) (acc : List PyData), (∀ a ∈ L, ∃ env1, g (.d (enc a)) env = some env1 ∧ c env1 st = .ok (.d (out a)) st) → lcL g tYs c [] env (L.map enc) acc st = .ok (acc ++ L.map out) st
  | [], acc, _ => by simp [lcL]
  | a :: L, acc, q => by
    obtain ⟨env1, e1, e2⟩ := q a (by simp)
    have ih := lcL_mapE (g := g) (c := c) (env := env) (st := st) enc out L (acc ++ [out a]) fun y hy => q y (by simp [hy])
    simp [lcL, e1, e2, ih]
theorem lcL_filterE {α : Type} {g : Wv → En → Option En} {t : En → Sto → Rs Bool} {c : En → Sto → Rs Wv} {env : En} {st : Sto} (enc out : α → PyData) (p : α → Bool) : ∀ (L : List α) (acc : List PyData), (∀ a ∈ L, ∃ env1, g (.d (enc a)) env = some env1 ∧ t env1 st = .ok (p a) st ∧ (p a = true → c env1 st = .ok (.d (out a)) st)) →
    lcL g t c [] env (L.map enc) acc st = .ok (acc ++ (L.filter p).map out) st
  | [], acc, _ => by simp [lcL]
  | a :: L, acc, q => by
    obtain ⟨env1, e1, e2, e3⟩ := q a (by simp)
    have ih := lcL_filterE (g := g) (t := t) (c := c) (env := env) (st := st) enc out p L
    cases hp : p a with
    | true => simp [lcL, e1, e2, hp, e3 hp, ih (acc ++ [out a]) fun y hy => q y (by simp [hy])]
    | false => simp [lcL, e1, e2, hp, ih acc fun y hy => q y (by simp [hy])]
end
section
variable [Wtp] [Tbl]
/-! ## new lists of the store that an operation makes -/
def mulN : PyData → PyData → Option (List PyData)
  | .list xs, .int k => if 0 ≤ k ∧ k ≤ 1000 ∧ xs.length ≤ 1000 then some (List.replicate k.toNat xs).flatten else none
  | _, _ => none
def lstN : List PyData → Option (List PyData)
  | [d] => seqOf d
  | _ => none
def newO (r : Option (List PyData)) (st : Sto) : Rs Wv := match r with
  | some xs => .ok (.r st.length) (st ++ [.lst xs])
  | none => .no
@[simp] theorem newO_some (xs : List PyData) (st : Sto) : newO (some xs) st = .ok (.r st.length) (st ++ [.lst xs]) := rfl
def eOp2N (f : PyData → PyData → Option (List PyData)) (ca cb : En → Sto → Rs Wv) : En → Sto → Rs Wv := fun env st => (ca env st).bind fun a st1 => (cb env st1).bind fun b st2 => look1 a st2 fun d => look1 b st2 fun e => newO (f d e) st2
def eOpNN (f : List PyData → Option (List PyData)) (cs : En → Sto → Rs (List Wv)) : En → Sto → Rs Wv := fun env st => (cs env st).bind fun ws st1 => match looks ws st1 with
  | some ds => newO (f ds) st1
  | none => .no
@[simp] theorem x_op2n (f : PyData → PyData → Option (List PyData)) (a b : En → Sto → Rs Wv) (env : En) (st : Sto) : eOp2N f a b env st = (a env st).bind fun v st1 => (b env st1).bind fun w st2 => look1 v st2 fun d => look1 w st2 fun e => newO (f d e) st2 := rfl
@[simp] theorem x_opnn (f : List PyData → Option (List PyData)) (c : En → Sto → Rs (List Wv)) (env : En) (st : Sto) : eOpNN f c env st = (c env st).bind fun ws st1 => match looks ws st1 with
  | some ds => newO (f ds) st1
  | none => .no := rfl
@[simp] theorem o_mulN (xs : List PyData) (k : Int) : mulN (.list xs) (.int k) = if 0 ≤ k ∧ k ≤ 1000 ∧ xs.length ≤ 1000 then some (List.replicate k.toNat xs).flatten else none := rfl
@[simp] theorem o_lstN_l (xs : List PyData) : lstN [.list xs] = some xs := rfl
@[simp] theorem o_lstN_t (xs : List PyData) : lstN [.tuple xs] = some xs := rfl
def nOut (K : Frg) (H : Hp) (Z : Addr → Prop) (xs : List PyData) (Q : VK) : Prop := ∀ p vs, H p = none → RpA K H Z vs xs → Q (.ref p) (upd H p (.lst vs))
def rNwN (K : Frg) (f : List PyData → Option (List PyData)) : List V → Hp → VK → Prop := fun vs H Q => ∃ Z ds xs, RTs K H Z vs ds ∧ f ds = some xs ∧ nOut K H Z xs Q
section
variable {M : Md} {X : Cx} {B : Tb} {k : Nat} {σ : L2.St} {H : Hp} {m : Mp} {W : WX} {ca cb : En → Sto → Rs Wv} {cs : En → Sto → Rs (List Wv)} {pos p : Pos} {a b : Expr}
theorem nOut_of {st0 st1 : Sto} {H1 : Hp} {m1 : Mp} {r : Option (List PyData)} {Q : VK} {E : Xc → Sto → Prop} (f1 : Fol m st0.length H m1 st1.length H1) (S1 : Sim X.K H1 m1 st1) (q : (newO r st1).post (okE X m st0.length H Q) E) : ∃ xs, r = some xs ∧ nOut X.K H1 (Off m1 st1.length) xs Q := by
  cases r with
  | none => exact q.elim
  | some xs =>
    refine ⟨xs, rfl, fun p vs hn ra => ?_⟩
    have q : okE X m st0.length H Q (.r st1.length) (st1 ++ [.lst xs]) := q
    have f2 : Fol m1 st1.length H1 (mup m1 st1.length p) (st1.length + 1) (upd H1 p (.lst vs)) := fol_new hn
    have hl : (st1 ++ [Ob.lst xs]).length = st1.length + 1 := by simp
    refine q _ _ (mup m1 st1.length p) ?_ (S1.new hn ⟨vs, upd_same, ra.mv f2.kp⟩) ?_
    · rw [hl]; exact f1.trans f2
    · rw [hl]; exact ⟨Nat.lt_succ_self _, by rw [mup_new]⟩
theorem te_newN (f : List PyData → Option (List PyData)) {Q : VK} (h : tE X W (eOpNN f cs) σ H Q) : tCB (rNwN X.K f) (tA X W cs) σ H Q := by
  obtain ⟨m, env, st, S, R, hp⟩ := h
  unfold eOpNN at hp
  rw [Rs.post_bind] at hp
  refine ⟨m, env, st, S, R, Rs.post_mono hp (fun ws st1 q vs H1 m1 f1 S1 r1 => ?_) fun _ _ q => q⟩
  split at q
  · rename_i ds e1
    obtain ⟨xs, e3, o⟩ := nOut_of f1 S1 q
    exact ⟨_, ds, xs, looks_rt S1 r1 e1, e3, o⟩
  · exact q.elim
theorem n_lst : CallR X (.type "list") (rNwN X.K lstN) := by
  intro pins s σ H xs us Q I r ⟨Z, ds, ys, hd, hf, ho⟩
  unfold lstN at hf
  split at hf
  · obtain ⟨v, rfl, h⟩ := rts1 hd
    unfold seqOf at hf
    split at hf
    · cases hf
      obtain ⟨a, vs, rfl, h1, h2⟩ := h.lst
      exact call_list_of pins s σ H _ us Q I r ⟨a, vs, rfl, .inl h1.sq, fun p hn => ho p _ hn h2⟩
    · cases hf
      obtain ⟨a, vs, rfl, h1, h2⟩ := h.tup
      exact call_list_of pins s σ H _ us Q I r ⟨a, vs, rfl, .inr h1, fun p hn => ho p _ hn h2⟩
    · cases hf
  · cases hf
theorem de_lstN {e : Expr} (c : Cxt M X B k) (j : Nat) (hg : B.gs[j]? = some ("list" : Str)) (hm : M.mg "list" = none) (ha : DA X [e] cs) (he : starEach [e] X.env = (false, eval e X.env) :: starEach [] X.env := by rfl) (hpl : (backTo pos (starEach [] X.env)).any (·.1) = false := by rfl) :
    DE X (.Call (.Name "list" p) [e] [] pos) (eOpNN lstN cs) :=
  ⟨fun W tk => PE.imp (pe_callTy n_lst (c.gl j _ hg) (by rw [c.mg]; exact hm) (by decide +kernel) (ha.pa W tk) (by decide) (by decide) he hpl) fun σ H Q => te_newN lstN⟩
def slDN (lo hi : Option Int) : PyData → Option (List PyData)
  | .list xs => some (cutD xs lo hi)
  | _ => none
def eSliceN (c : En → Sto → Rs Wv) (l h : En → Sto → Rs (Option Int)) : En → Sto → Rs Wv := fun env st => (c env st).bind fun w st1 => (l env st1).bind fun lo st2 => (h env st2).bind fun hi st3 => look1 w st3 fun d => newO (slDN lo hi d) st3
@[simp] theorem o_slDN (lo hi : Option Int) (xs : List PyData) : slDN lo hi (.list xs) = some (cutD xs lo hi) := rfl
@[simp] theorem x_sliceN (env : En) (st : Sto) (c : En → Sto → Rs Wv) (l h : En → Sto → Rs (Option Int)) : eSliceN c l h env st = ((c env st).bind fun w st1 => (l env st1).bind fun i st2 => (h env st2).bind fun j st3 => look1 w st3 fun d => newO (slDN i j d) st3) := rfl
/-! a, b = x, y where a name lies in a cell: stores' lists too -/
def gWNl : List Wv → En → Option En := fun ws env => match ws with
  | [] => some env
  | _ => none
def gWCn (g : Wv → En → Option En) (h : List Wv → En → Option En) : List Wv → En → Option En := fun ws env => match ws with
  | w :: r => (g w env).bind (h r)
  | [] => none
def sAsgW (g : List Wv → En → Option En) (cs : En → Sto → Rs (List Wv)) : En → Sto → SR := fun env st => (cs env st).sb fun ws st1 => match g ws env with
  | some env' => .nx env' st1
  | none => .no
@[simp] theorem x_asgW (g : List Wv → En → Option En) (cs : En → Sto → Rs (List Wv)) (env : En) (st : Sto) : sAsgW g cs env st = (cs env st).sb fun ws st1 => match g ws env with | some env' => .nx env' st1 | none => .no := rfl
@[simp] theorem x_gWNl (env : En) : gWNl [] env = some env := rfl
@[simp] theorem x_gWCn (g : Wv → En → Option En) (h : List Wv → En → Option En) (w : Wv) (r : List Wv) (env : En) : gWCn g h (w :: r) env = (g w env).bind (h r) := rfl
end
/-! ## a, b = x, y where one of the names is captured -/
/-! ## a comprehension that draws -/
theorem lcL_pen {g : Wv → En → Option En} {c : En → Sto → Rs Wv} {env : En} {p : Nat} (Q : PyData → Prop) : ∀ (xs acc : List PyData) (st : Sto), Pen p st → (∀ x ∈ xs, ∀ st, Pen p st → ∃ env1 y st', g (.d x) env = some env1 ∧ c env1 st = .ok (.d y) st' ∧ Q y ∧ Pn p st st') →
    ∃ ys st', lcL g tYs c [] env xs acc st = .ok (acc ++ ys) st' ∧ ys.length = xs.length ∧ (∀ y ∈ ys, Q y) ∧ Pn p st st'
  | [], acc, st, h, _ => ⟨[], st, by simp [lcL], rfl, fun y hy => absurd hy List.not_mem_nil, .refl h⟩
  | x :: xs, acc, st, h, q => by
    obtain ⟨env1, y, st1, e1, e2, hy, pn⟩ := q x (by simp) st h
    obtain ⟨ys, st2, e3, hl, hys, pn2⟩ := lcL_pen Q xs (acc ++ [y]) st1 pn.pen fun z hz => q z (by simp [hz])
    refine ⟨y :: ys, st2, by simp [lcL, e1, e2, e3], by simp [hl], fun z hz => ?_, pn.trans pn2⟩
    rcases List.mem_cons.mp hz with rfl | hz
    · exact hy
    · exact hys z hz
/-! ## loops over lists of the store -/
end
section
variable [Wtp] [Tbl]
/-! ### {k: v, ..} that nobody writes -/
def pairsW : List Wv → Option (List (PyData × PyData))
  | [] => some []
  | .d c :: .d y :: ws => match keyD c, pairsW ws with
    | some _, some es => some ((c, y) :: es)
    | _, _ => none
  | _ => none
def mergeD (es more : List (PyData × PyData)) : List (PyData × PyData) := more.foldl (fun acc e => match keyD e.1 with
  | some k => dPut acc k e.1 e.2
  | none => acc) es
def dicW (ws : List Wv) (st : Sto) : Rs Wv := match pairsW ws with
  | some es => if es.length ≤ 15 then .ok (.d (.dict (mergeD [] es))) st else .no
  | none => .no
def eDic (cs : En → Sto → Rs (List Wv)) : En → Sto → Rs Wv := fun env st => (cs env st).bind dicW
@[simp] theorem x_dic (env : En) (st : Sto) (cs : En → Sto → Rs (List Wv)) : eDic cs env st = (cs env st).bind dicW := rfl
/-! ### least and greatest of a list -/
open PySem.W in
def alikeB (xs : List PyData) : Bool := xs.all (fun x => xs.all (alike x)) && xs.all (fun x => match x with | .none => false | _ => true)
open PySem.W in
def bestF (f : PyData → List PyData → PyData) : List PyData → Option PyData
  | [d] => match seqOf d with
    | some (x :: xs) => if alikeB (x :: xs) = true ∧ PyData.depthAll (x :: xs) ≤ 40 then some (f x xs) else none
    | _ => none
  | _ => none
end
section
variable [Wtp] [Tbl]
/-! ### calls with keywords -/
def eOpK (f : List PyData → List PyData → Option PyData) (cs ck : En → Sto → Rs (List Wv)) : En → Sto → Rs Wv := fun env st =>
  (cs env st).bind fun ws st1 => (ck env st1).bind fun zs st2 => match looks ws st2, looks zs st2 with
    | some ds, some es => ret1 (f ds es) st2
    | _, _ => .no
@[simp] theorem x_opK (env : En) (st : Sto) (f : List PyData → List PyData → Option PyData) (cs ck : En → Sto → Rs (List Wv)) : eOpK f cs ck env st = ((cs env st).bind fun ws st1 => (ck env st1).bind fun zs st2 => match looks ws st2, looks zs st2 with
    | some ds, some es => ret1 (f ds es) st2
    | _, _ => .no) := rfl
def eOpKN (f : List PyData → List PyData → Option (List PyData)) (cs ck : En → Sto → Rs (List Wv)) : En → Sto → Rs Wv := fun env st =>
  (cs env st).bind fun ws st1 => (ck env st1).bind fun zs st2 => match looks ws st2, looks zs st2 with
    | some ds, some es => newO (f ds es) st2
    | _, _ => .no
@[simp] theorem x_opKN (env : En) (st : Sto) (f : List PyData → List PyData → Option (List PyData)) (cs ck : En → Sto → Rs (List Wv)) : eOpKN f cs ck env st = ((cs env st).bind fun ws st1 => (ck env st1).bind fun zs st2 => match looks ws st2, looks zs st2 with
    | some ds, some es => newO (f ds es) st2
    | _, _ => .no) := rfl
section
variable {M : Md} {X : Cx} {B : Tb} {k : Nat} {σ : L2.St} {H : Hp} {W : WX} {cs ck : En → Sto → Rs (List Wv)} {ca : En → Sto → Rs Wv} {pos p : Pos} {e : Expr} {es : List Expr} {kws : List Keyword}
theorem PK.imp {e : List Keyword} {t t' : TA} (h : PK X e t) (q : ∀ σ H Q, t' σ H Q → t σ H Q) : PK X e t' := ⟨fun pos pins s σ H Q I x => h.run pos pins s σ H Q I (q σ H Q x)⟩
end
/-! ### a comprehension given to a captured name -/
/-! ### min(xs, default=d), max(xs, default=d) -/
open PySem.W in
def bestK (f : PyData → List PyData → PyData) : List PyData → List PyData → Option PyData
  | [d], [e] => match seqOf d with
    | some [] => (match e with
      | .none => some .none
      | .int i => some (.int i)
      | _ => none)
    | some (x :: xs) => if alikeB (x :: xs) = true ∧ PyData.depthAll (x :: xs) ≤ 40 then some (f x xs) else none
    | none => none
  | _, _ => none
end
section
variable [Wtp] [Tbl]
/-! ### best and sorted of alike data -/
open PySem.W in
theorem alikeB_of {P : PyData → Prop} {xs : List PyData} (h : ∀ x ∈ xs, P x) (hp : ∀ x y, P x → P y → alike x y = true) (hn : ∀ x, P x → x ≠ .none) : alikeB xs = true := by
  unfold alikeB
  rw [Bool.and_eq_true, List.all_eq_true, List.all_eq_true]
  refine ⟨fun x hx => List.all_eq_true.mpr fun y hy => hp x y (h x hx) (h y hy), fun x hx => ?_⟩
  have := hn x (h x hx)
  cases x <;> first | rfl | exact absurd rfl this
theorem best_ok {f : PyData → List PyData → PyData} {x : PyData} {xs : List PyData} (h : alikeB (x :: xs) = true) (hd : ∀ y ∈ x :: xs, y.depth ≤ 40) : bestF f [.list (x :: xs)] = some (f x xs) := by
  have hd' := depthAll_le hd
  unfold bestF seqOf
  dsimp only
  rw [if_pos ⟨h, hd'⟩]
@[simp] theorem bestK_nil_n (f : PyData → List PyData → PyData) : bestK f [.list []] [.none] = some .none := rfl
@[simp] theorem bestK_nil_i (f : PyData → List PyData → PyData) (i : Int) : bestK f [.list []] [.int i] = some (.int i) := rfl
@[simp] theorem bestK_nilT_n (f : PyData → List PyData → PyData) : bestK f [.tuple []] [.none] = some .none := rfl
@[simp] theorem bestK_nilT_i (f : PyData → List PyData → PyData) (i : Int) : bestK f [.tuple []] [.int i] = some (.int i) := rfl
/-! ### ints -/
def IsI (d : PyData) : Prop := ∃ i : Int, d = .int i
theorem isI_alike (x y : PyData) (h : IsI x) (k : IsI y) : PySem.W.alike x y = true := by obtain ⟨i, rfl⟩ := h; obtain ⟨j, rfl⟩ := k; rfl
theorem isI_nn (x : PyData) (h : IsI x) : x ≠ .none := by obtain ⟨i, rfl⟩ := h; exact fun z => nomatch z
@[simp] theorem depth_int (i : Int) : (PyData.int i).depth = 0 := rfl
@[simp] theorem depth_pair (i j : Int) : (PyData.tuple [.int i, .int j]).depth = 1 := rfl
theorem ints_I (ns : List Int) : ∀ x ∈ ns.map PyData.int, IsI x := fun x hx => by obtain ⟨i, _, rfl⟩ := List.mem_map.mp hx; exact ⟨i, rfl⟩
theorem isI_d {x : PyData} (h : IsI x) : x.depth ≤ 40 := by obtain ⟨i, rfl⟩ := h; exact Nat.zero_le _
/-- the least, the greatest of ints -/
def mnI (x : Int) (xs : List Int) : Int := xs.foldl (fun a y => if y < a then y else a) x
def mxI (x : Int) (xs : List Int) : Int := xs.foldl (fun a y => if a < y then y else a) x
theorem dataLt_i (i j : Int) : PySem.W.dataLt (.int i) (.int j) = decide (i < j) := by
  have h := congrFun (congrFun (PySem.W.dataLe_int (fun x : Int => x)) j) i
  have h2 : PySem.W.dataLe false (fun b : Int => PyData.int b) j i = !PySem.W.dataLt (.int i) (.int j) := rfl
  rw [h2] at h
  have : (!PySem.W.dataLt (.int i) (.int j)) = decide (j ≤ i) := h
  by_cases q : i < j
  · have e : decide (j ≤ i) = false := by simp; omega
    rw [e] at this
    simpa [q] using this
  · have e : decide (j ≤ i) = true := by simp; omega
    rw [e] at this
    simpa [q] using this
theorem minD_int : ∀ (xs : List Int) (x : Int), PySem.W.minD (.int x) (xs.map .int) = .int (mnI x xs)
  | [], x => rfl
  | y :: ys, x => by
    show PySem.W.minD (if PySem.W.dataLt (.int y) (.int x) then .int y else .int x) (ys.map .int) = .int (mnI (if y < x then y else x) ys)
    rw [dataLt_i]
    by_cases q : y < x
    · rw [if_pos (by simpa using q), if_pos q]; exact minD_int ys y
    · rw [if_neg (by simpa using q), if_neg q]; exact minD_int ys x
theorem maxD_int : ∀ (xs : List Int) (x : Int), PySem.W.maxD (.int x) (xs.map .int) = .int (mxI x xs)
  | [], x => rfl
  | y :: ys, x => by
    show PySem.W.maxD (if PySem.W.dataLt (.int x) (.int y) then .int y else .int x) (ys.map .int) = .int (mxI (if x < y then y else x) ys)
    rw [dataLt_i]
    by_cases q : x < y
    · rw [if_pos (by simpa using q), if_pos q]; exact maxD_int ys y
    · rw [if_neg (by simpa using q), if_neg q]; exact maxD_int ys x
@[simp] theorem o_min_ints (x : Int) (xs : List Int) : bestF PySem.W.minD [.list ((x :: xs).map .int)] = some (.int (mnI x xs)) := by
  have hI := ints_I (x :: xs)
  rw [List.map_cons] at hI ⊢
  rw [best_ok (alikeB_of hI isI_alike isI_nn) fun y hy => isI_d (hI y hy), minD_int]
@[simp] theorem o_max_ints (x : Int) (xs : List Int) : bestF PySem.W.maxD [.list ((x :: xs).map .int)] = some (.int (mxI x xs)) := by
  have hI := ints_I (x :: xs)
  rw [List.map_cons] at hI ⊢
  rw [best_ok (alikeB_of hI isI_alike isI_nn) fun y hy => isI_d (hI y hy), maxD_int]
theorem looks_l1 {i : Nat} {st : Sto} {xs : List PyData} (h : st[i]? = some (.lst xs)) : looks [.r i] st = some [.list xs] := by
  unfold looks
  rw [look_l h]
  rfl
/-! ### lists of the store as sources -/
/-! ### the same shown twice is the same -/
end
section
variable [Wtp] [Tbl]
/-! ### list(range(n)), tuple(range(n)) -/
def rgLW (tup : Bool) (w : Wv) (st : Sto) : Rs Wv := match w with
  | .d (.int n) => if n ≤ 1000000 ∧ -1000000 ≤ n then .ok (.d (if tup then .tuple (rangeD 0 n.toNat) else .list (rangeD 0 n.toNat))) st else .no
  | _ => .no
def eRgL (tup : Bool) (c : En → Sto → Rs Wv) : En → Sto → Rs Wv := fun env st => (c env st).bind (rgLW tup)
@[simp] theorem x_rgL (env : En) (st : Sto) (t : Bool) (c : En → Sto → Rs Wv) : eRgL t c env st = (c env st).bind (rgLW t) := rfl
/-! ### methods of lists that read -/
def isLd (st : Sto) (w : Wv) : Bool := match look st w with
  | some (.list _) => true
  | _ => false
@[simp] theorem isLd_d (xs : List PyData) (st : Sto) : isLd st (.d (.list xs)) = true := rfl
def eMd (f : PyData → List PyData → Option PyData) (co : En → Sto → Rs Wv) (cs : En → Sto → Rs (List Wv)) : En → Sto → Rs Wv := fun env st => (co env st).bind fun w st1 => if isLd st1 w = true then (cs env st1).bind fun ws st2 => match look st2 w, looks ws st2 with
    | some d, some ds => ret1 (f d ds) st2
    | _, _ => .no
  else .no
@[simp] theorem x_md (env : En) (st : Sto) (f : PyData → List PyData → Option PyData) (co : En → Sto → Rs Wv) (cs : En → Sto → Rs (List Wv)) : eMd f co cs env st = ((co env st).bind fun w st1 => if isLd st1 w = true then (cs env st1).bind fun ws st2 => match look st2 w, looks ws st2 with
    | some d, some ds => ret1 (f d ds) st2
    | _, _ => .no
  else .no) := rfl
def rMd (K : Frg) (f : PyData → List PyData → Option PyData) : V → List V → Hp → VK → Prop := fun v vs H Q => ∃ Z d ds r, (∀ a, H a = none → Z a) ∧ RT K H Z v d ∧ RTs K H Z vs ds ∧ f d ds = some r ∧ rOut K H Z r Q
section
variable {M : Md} {X : Cx} {B : Tb} {k : Nat} {pins : List (Addr × Obj)} {σ : L2.St} {H : Hp} {s : Shared} {W : WX} {pos apos : Pos} {o e : Expr} {es : List Expr} {co : En → Sto → Rs Wv} {cs : En → Sto → Rs (List Wv)}
theorem te_md (f : PyData → List PyData → Option PyData) {Q : VK} (h : tE X W (eMd f co cs) σ H Q) : tBM X.K "list" (rMd X.K f) (tE X W co) (tA X W cs) σ H Q := by
  obtain ⟨m, env, st, S, R, hp⟩ := h
  unfold eMd at hp
  rw [Rs.post_bind] at hp
  refine ⟨m, env, st, S, R, Rs.post_mono hp (fun w st1 q1 v H1 m1 f1 S1 r1 => ?_) fun _ _ q => q⟩
  split at q1
  · rename_i hw
    rw [Rs.post_bind] at q1
    have ty : tyV X.K "list" v H1 := by
      unfold isLd at hw
      split at hw
      · rename_i xs e1
        obtain ⟨a, vs, rfl, h1, h2⟩ := (look_rt S1 r1 e1).lst
        exact .inl ⟨rfl, vs, h1.sq⟩
      · cases hw
    refine ⟨ty, m1, env, st1, S1, R.mv f1, Rs.post_mono q1 (fun ws st2 q2 vs H2 m2 f2 S2 r2 => ?_) fun _ _ z => okX.tr f1 z⟩
    split at q2
    · rename_i d ds e1 e2
      obtain ⟨r, e3, q⟩ := ret1_post q2
      exact ⟨_, d, ds, r, fun a => S2.fresh, look_rt S2 (r1.mv f2) e1, looks_rt S2 r2 e2, e3, okE.out (f1.trans f2) S2 q⟩
    · exact q2.elim
  · exact q1.elim
/-- l.count(x) -/
def cntD : PyData → List PyData → Option PyData
  | .list xs, [d] => if PyData.plainAll xs = true ∧ d.plain = true ∧ min (PyData.depthAll xs) d.depth ≤ 40 then some (.int ((xs.countP fun y => PyData.eqv y d : Nat))) else none
  | _, _ => none
theorem m_count (hr : L2H.RoomH k X.A) : MtR X "list.count" (rMd X.K cntD) := by
  intro pins s σ H x xs v us Q I rx rxs ⟨Z, d, ds, r, hz, hd, hds, hf, ho⟩
  have hu := room_eq hr (show 60 ≤ 60 by decide)
  unfold cntD at hf
  split at hf
  · rename_i ys y
    split at hf
    · rename_i hc
      cases hf
      obtain ⟨a, vs, rfl, h1, h2⟩ := hd.lst
      obtain ⟨z, rfl, h'⟩ := rts1 hds
      obtain ⟨u', rfl, rz'⟩ := vals1 rxs
      cases rx
      obtain ⟨its, rv, hl, _⟩ := I.list h1.sq
      obtain ⟨as, rd⟩ := RpA.reads I _ vs its h2 rv
      obtain ⟨bs, rb⟩ := Inv.rt I h' rz'
      exact PySem.SeqAt.count_list_data hl.isList (by simpa using rd) rb hc.1 hc.2.1 (by omega) ⟨.int _, H, I.tok _, ⟨_, rfl⟩, rout_here ho (.int _)⟩
    · cases hf
  · cases hf
end
end
section
variable [Wtp] [Tbl]
/-! ### data of a type -/
open PySem.W (Datum DatumOrd Tup minOf maxOf)
section
variable {α : Type} [DecidableEq α]
section
variable [Datum α]
theorem cmpOk_d (x y : α) (h : Datum.depth α ≤ 40) : cmpOk (Datum.toD x) (Datum.toD y) = true := by
  unfold cmpOk
  have := Datum.depth_le x
  simp only [Datum.plain, Bool.true_and, decide_eq_true_eq]
  exact Nat.le_trans (Nat.min_le_left _ _) (by omega)
theorem q_eq (x y : α) (h : Datum.depth α ≤ 40 := by decide) : eqD (Datum.toD x) (Datum.toD y) = some (.bool (decide (x = y))) := by
  unfold eqD
  rw [if_pos (cmpOk_d x y h), Datum.eqv]
theorem q_ne (x y : α) (h : Datum.depth α ≤ 40 := by decide) : neD (Datum.toD x) (Datum.toD y) = some (.bool (!decide (x = y))) := by
  unfold neD
  rw [if_pos (cmpOk_d x y h), Datum.eqv]
theorem inOk_d (x : α) (xs : List α) (h : Datum.depth α ≤ 40) : inOk (Datum.toD x) (xs.map Datum.toD) = true := by
  unfold inOk
  have := PySem.W.depthAll_map xs
  rw [Datum.plain, PySem.W.plainAll_map, Bool.true_and, Bool.true_and, decide_eq_true_eq]
  exact Nat.le_trans (Nat.min_le_left _ _) (by omega)
theorem q_in_l (x : α) (xs : List α) (h : Datum.depth α ≤ 40 := by decide) : inD (Datum.toD x) (.list (xs.map Datum.toD)) = some (.bool (decide (x ∈ xs))) := by
  unfold inD inB
  dsimp only
  rw [if_pos (inOk_d x xs h), PySem.W.any_datum]
  rfl
theorem q_ni_l (x : α) (xs : List α) (h : Datum.depth α ≤ 40 := by decide) : niD (Datum.toD x) (.list (xs.map Datum.toD)) = some (.bool (!decide (x ∈ xs))) := by
  unfold niD inB
  dsimp only
  rw [if_pos (inOk_d x xs h), PySem.W.any_datum]
  rfl
end
end
/-! ### ints in order -/
/-! ### a list, wherever -/
def LsIn (st : Sto) (w : Wv) (xs : List PyData) : Prop := w = .d (.list xs) ∨ ∃ i, w = .r i ∧ st[i]? = some (.lst xs)
section
variable {st : Sto} {w : Wv} {xs : List PyData}
theorem LsIn.keep (h : LsIn st w xs) {st' : Sto} (q : ∀ i, i < st.length → st'[i]? = st[i]?) : LsIn st' w xs := by
  rcases h with rfl | ⟨i, rfl, e⟩
  · exact .inl rfl
  · exact .inr ⟨i, rfl, by rw [q i (List.getElem?_eq_some_iff.mp e).1]; exact e⟩
theorem LsIn.app (h : LsIn st w xs) (l : Sto) : LsIn (st ++ l) w xs := h.keep fun i hi => List.getElem?_append_left hi
end
/-! ### x is True -/
end
section
variable [Wtp] [Tbl]
/-! ## dicts of the store that are walked: pinned from there on -/
def frzV (w : Wv) (st1 : Sto) : Rs Wv := match w with
  | .r i => match st1[i]? with
    | some (.dct es) => .ok (.d (.dict es)) (st1.set i (.lkd es))
    | some (.dtt es) => .ok (.d (.dict es)) (st1.set i (.lkd es))
    | some (.lkd es) => .ok (.d (.dict es)) st1
    | some (.lst xs) => .ok (.d (.list xs)) (st1.set i (.lkl xs))
    | some (.lkl xs) => .ok (.d (.list xs)) st1
    | _ => .ok (.r i) st1
  | w => .ok w st1
def eFrz (c : En → Sto → Rs Wv) : En → Sto → Rs Wv := fun env st => (c env st).bind frzV
@[simp] theorem x_frz (env : En) (st : Sto) (c : En → Sto → Rs Wv) : eFrz c env st = (c env st).bind frzV := rfl
@[simp] theorem frzV_d (x : PyData) (st : Sto) : frzV (.d x) st = .ok (.d x) st := rfl
section
variable {M : Md} {X : Cx} {B : Tb} {k : Nat} {pins : List (Addr × Obj)} {σ : L2.St} {H : Hp} {s : Shared} {m : Mp} {env : En} {st : Sto} {W : WX} {pos apos p5 : Pos} {o e f : Expr} {co ce cf : En → Sto → Rs Wv}
/-! ## d.get(k), d.get(k, x) -/
/-- what stands at a key -/
def getO (d c : PyData) : Option (Option PyData) := match d with
  | .dict es => match keyD c with
    | some q => if kindK es = true then some (dLook es q) else none
    | none => match tkD c with
      | some q => if kindT es = true then some (dLookT es q) else none
      | none => none
  | _ => none
def isDk (st : Sto) (w : Wv) : Bool := match look st w with
  | some (.dict _) => true
  | _ => false
@[simp] theorem isDk_d (es : List (PyData × PyData)) (st : Sto) : isDk st (.d (.dict es)) = true := rfl
def eGet1 (co ce : En → Sto → Rs Wv) : En → Sto → Rs Wv := fun env st => (co env st).bind fun w st1 => if isDk st1 w = true then (ce env st1).bind fun j st2 => look1 w st2 fun d => look1 j st2 fun c => ret1 ((getO d c).map fun o => o.getD .none) st2 else .no
def eGet2 (co ce cf : En → Sto → Rs Wv) : En → Sto → Rs Wv := fun env st => (co env st).bind fun w st1 => if isDk st1 w = true then (ce env st1).bind fun j st2 => (cf env st2).bind fun y st3 => look1 w st3 fun d => look1 j st3 fun c => (match y with | .d z => ret1 ((getO d c).map fun o => o.getD z) st3 | _ => .no) else .no
@[simp] theorem x_get1 (env : En) (st : Sto) (co ce : En → Sto → Rs Wv) : eGet1 co ce env st = ((co env st).bind fun w st1 => if isDk st1 w = true then (ce env st1).bind fun j st2 => look1 w st2 fun d => look1 j st2 fun c => ret1 ((getO d c).map fun o => o.getD .none) st2 else .no) := rfl
@[simp] theorem x_get2 (env : En) (st : Sto) (co ce cf : En → Sto → Rs Wv) : eGet2 co ce cf env st = ((co env st).bind fun w st1 => if isDk st1 w = true then (ce env st1).bind fun j st2 => (cf env st2).bind fun y st3 => look1 w st3 fun d => look1 j st3 fun c => (match y with | .d z => ret1 ((getO d c).map fun o => o.getD z) st3 | _ => .no) else .no) := rfl
/-! ## str of an int, dict of a dict -/
def strF : List PyData → Option PyData
  | [.int i] => if i.natAbs.log2 < 1920 then some (.str (toString i)) else none
  | [.str z] => some (.str z)
  | _ => none
theorem c_str : CallR X (.type "str") (rN X.K strF) := by
  intro pins s σ H xs us Q I r ⟨Z, ds, e, hz, hd, hf, ho⟩
  unfold strF at hf
  split at hf
  · split at hf
    · rename_i hl
      cases hf
      obtain ⟨v, rfl, h⟩ := rts1 hd
      rw [h.int] at r
      exact call_str_int pins s σ H _ us Q I r ⟨_, rfl, hl, rout_here ho (.str _)⟩
    · cases hf
  · cases hf
    obtain ⟨v, rfl, h⟩ := rts1 hd
    rw [h.str] at r
    exact SkE.call_str_str pins s σ H _ us Q I r ⟨_, rfl, rout_here ho (.str _)⟩
  · cases hf
theorem o_str {i : Int} (h : i.natAbs < 10 ^ 40) : strF [.int i] = some (.str (toString i)) := by
  have h2 : i.natAbs.log2 < 1920 := by
    by_cases e : i.natAbs = 0
    · rw [e]; decide
    · rw [Nat.log2_lt e]
      exact Nat.lt_of_lt_of_le h (by decide +kernel)
  show (if i.natAbs.log2 < 1920 then some (PyData.str (toString i)) else none) = _
  rw [if_pos h2]
def dcpF : List PyData → Option (List (PyData × PyData))
  | [.dict es] => if kindK es = true ∧ es ≠ [] then some es else none
  | _ => none
def eDcp (cs : En → Sto → Rs (List Wv)) : En → Sto → Rs Wv := fun env st => (cs env st).bind fun ws st1 => match looks ws st1 with
  | some ds => match dcpF ds with
    | some es => .ok (.r st1.length) (st1 ++ [.dct es])
    | none => .no
  | none => .no
@[simp] theorem x_dcp (env : En) (st : Sto) (cs : En → Sto → Rs (List Wv)) : eDcp cs env st = (cs env st).bind fun ws st1 => match looks ws st1 with
  | some ds => match dcpF ds with
    | some es => .ok (.r st1.length) (st1 ++ [.dct es])
    | none => .no
  | none => .no := rfl
/-! ## list(d): a dict's keys -/
end
end
section
variable [Wtp] [Tbl]
/-! ## xs.clear() -/
section
variable {M : Md} {X : Cx} {B : Tb} {k : Nat} {pins : List (Addr × Obj)} {σ : L2.St} {H : Hp} {s : Shared} {m : Mp} {env : En} {st : Sto} {W : WX} {pos apos p5 : Pos} {o e f : Expr} {co ce cf : En → Sto → Rs Wv} {cs : En → Sto → Rs (List Wv)}
/-! ## x[i], y[j] = a, b -/
theorem sw_sub {oa ia ob ib : Expr} {pa pb pt p2 : Pos} {jj k2 : Nat} {es : List Expr} (env : Env) : swappedStores [.Tuple [.Subscript oa ia pa, .Subscript ob ib pb] jj pt] (.Tuple es k2 p2) env = pure none := by
  unfold swappedStores
  simp only [pure_bind, List.filterMap_cons, List.filterMap_nil, List.length_nil, List.length_cons]
  split
  · rfl
  · split
    · rfl
    · rfl
noncomputable def swpW (o1 i1 o2 i2 : En → Sto → Rs Wv) (env : En) (ws : List Wv) (st1 : Sto) : SR := match ws with
  | [.d x, .d y] => (o1 env st1).sb fun w1 st2 => (i1 env st2).sb fun j1 st3 => match setW w1 j1 x st3 with
    | some st4 => (o2 env st4).sb fun w2 st5 => (i2 env st5).sb fun j2 st6 => match setW w2 j2 y st6 with
      | some st7 => .nx env st7
      | none => .no
    | none => .no
  | _ => .no
noncomputable def sSwp (o1 i1 o2 i2 : En → Sto → Rs Wv) (cs : En → Sto → Rs (List Wv)) : En → Sto → SR := fun env st => (cs env st).sb (swpW o1 i1 o2 i2 env)
@[simp] theorem x_swp (o1 i1 o2 i2 : En → Sto → Rs Wv) (cs : En → Sto → Rs (List Wv)) (env : En) (st : Sto) : sSwp o1 i1 o2 i2 cs env st = (cs env st).sb (swpW o1 i1 o2 i2 env) := rfl
theorem ds_swp (c : Cxt M X B k) {oa ia ob ib : Expr} {o1 i1 o2 i2 : En → Sto → Rs Wv} {pa pb pt p2 : Pos} {jj k2 : Nat} {es : List Expr} (h1 : DE X oa o1) (h2 : DE X ia i1) (h3 : DE X ob o2) (h4 : DE X ib i2) (ha : DA X es cs)
    (hs : swapsWithSole [.Tuple [.Subscript oa ia pa, .Subscript ob ib pb] jj pt] (.Tuple es k2 p2) pos.line X.env = pure false := by rfl) 
    (hh1 : (assignEach [.Tuple [.Subscript oa ia pa, .Subscript ob ib pb] jj pt] X.env).map (·.2) = [assign (.Tuple [.Subscript oa ia pa, .Subscript ob ib pb] jj pt) X.env] := by rfl) (hn : (assignEach [.Subscript oa ia pa, .Subscript ob ib pb] X.env).length = 2 := by rfl) (hst : (assignEach [.Subscript oa ia pa, .Subscript ob ib pb] X.env).findIdx? (·.1) = none := by rfl)
    (hs1 : (assignEach [.Subscript oa ia pa, .Subscript ob ib pb] X.env).map (·.2) = assign (.Subscript oa ia pa) X.env :: (assignEach [.Subscript ob ib pb] X.env).map (·.2) := by rfl)
    (hs2 : (assignEach [.Subscript ob ib pb] X.env).map (·.2) = assign (.Subscript ob ib pb) X.env :: (assignEach [] X.env).map (·.2) := by rfl)
    (ha1 : ∀ v, assign (.Subscript oa ia pa) X.env v = (do
      let ov ← holding [v] (eval oa X.env)
      let iv ← holding [v, ov] (eval ia X.env)
      standAt pa
      holding [v, ov, iv] (setItem ov iv v)
      release [v, ov, iv] []) := by intro _; rfl)
    (ha2 : ∀ v, assign (.Subscript ob ib pb) X.env v = (do
      let ov ← holding [v] (eval ob X.env)
      let iv ← holding [v, ov] (eval ib X.env)
      standAt pb
      holding [v, ov, iv] (setItem ov iv v)
      release [v, ov, iv] []) := by intro _; rfl) : DS X (.Assign [.Tuple [.Subscript oa ia pa, .Subscript ob ib pb] jj pt] (.Tuple es k2 p2) pos) (sSwp o1 i1 o2 i2 cs) := by
  have hu := room_eq c.roomH (show 1 ≤ 60 by decide)
  refine ⟨fun W tk => PS.imp (ps_asg (pe_tup (ha.pa W tk)) (pg_tup c.calm (pgs_cons (pg_sub (h1.pe W tk) (h2.pe W tk) (set_both hu) ha1) (pgs_cons (pg_sub (h3.pe W tk) (h4.pe W tk) (set_both hu) ha2) pgs_nil hs2) hs1) hn hst) hs (sw_sub _) hh1) fun D σ H ⟨m, env, st, S, R, hp⟩ => ?_⟩
  unfold sSwp at hp
  rw [Rs.post_sb] at hp
  refine ⟨m, env, st, S, R, Rs.post_mono hp (fun ws st1 q vs H1 m1 f1 S1 r1 => ?_) fun _ _ h => h.x⟩
  unfold swpW at q
  split at q
  · rename_i x y
    cases r1 with
    | @cons v1 _ _ _ rx r1 =>
      cases r1 with
      | @cons v2 _ _ _ ry r1 =>
        cases r1
        refine ⟨by simp; decide, fun p hn => ?_⟩
        have g := grow_upd (o := .tup [v1, v2]) hn
        have f1' : Fol m st.length H m1 st1.length (upd H1 p (.tup [v1, v2])) := f1.trans (.same g)
        have S1' := S1.grow g
        have rx' : RW X.K (upd H1 p (.tup [v1, v2])) m1 st1.length v1 (.d x) := rx.mv (.same g)
        have ry' : RW X.K (upd H1 p (.tup [v1, v2])) m1 st1.length v2 (.d y) := ry.mv (.same g)
        refine ⟨p, [v1, v2], rfl, SqT.of upd_same, rfl, v1, [v2], rfl, ?_⟩
        rw [Rs.post_sb] at q
        refine ⟨m1, env, st1, S1', R.mv f1', Rs.post_mono q (fun w1 st2 q ov H2 m2 f2 S2 r2 => ?_) fun _ _ h => (okXs.tr f1' h).x⟩
        rw [Rs.post_sb] at q
        have f12 := f1'.trans f2
        refine ⟨m2, env, st2, S2, R.mv f12, Rs.post_mono q (fun j1 st3 q iv H3 m3 f3 S3 r3 => ?_) fun _ _ h => (okXs.tr f12 h).x⟩
        have f13 := f12.trans f3
        have f23 := f2.trans f3
        split at q
        · rename_i st4 e4
          refine setW_ok (D := D) (st0 := st) S3 (r2.mv f3) r3 (rx'.mv f23) e4 fun H' f4 S4 => ?_
          refine ⟨v2, [], rfl, ?_⟩
          rw [Rs.post_sb] at q
          have f14 := f13.trans f4
          refine ⟨m3, env, st4, S4, R.mv f14, Rs.post_mono q (fun w2 st5 q ov2 H5 m5 f5 S5 r5 => ?_) fun _ _ h => (okXs.tr f14 h).x⟩
          rw [Rs.post_sb] at q
          have f15 := f14.trans f5
          refine ⟨m5, env, st5, S5, R.mv f15, Rs.post_mono q (fun j2 st6 q iv2 H6 m6 f6 S6 r6 => ?_) fun _ _ h => (okXs.tr f15 h).x⟩
          have f16 := f15.trans f6
          split at q
          · rename_i st7 e7
            refine setW_ok (D := D) (st0 := st) S6 (r5.mv f6) r6 (ry'.mv (((f23.trans f4).trans f5).trans f6)) e7 fun H7 f7 S7 => ?_
            exact ⟨rfl, q σ H7 m6 (f16.trans f7) S7 (R.mv (f16.trans f7))⟩
          · exact q.elim
        · exact q.elim
  · exact q.elim
end
/-! ## dict(xs) of a list of pairs, the keys tuples -/
open Classical in
noncomputable def prsD : List PyData → Option (List (PyData × PyData))
  | [] => some []
  | .tuple [c, d] :: r => match prsD r with
    | some es => if (tkD c).isSome = true ∧ NoW c then some ((c, d) :: es) else none
    | none => none
  | _ :: _ => none
def dctT (es : List (PyData × PyData)) : List (PyData × PyData) := es.foldl (fun acc p => dPutT acc ((tkD p.1).getD []) p.1 p.2) []
noncomputable def dprW (ws : List Wv) (st1 : Sto) : Rs Wv := match looks ws st1 with
  | some [.list ds] => match prsD ds with
    | some es => .ok (.r st1.length) (st1 ++ [.dtt (dctT es)])
    | none => .no
  | _ => .no
noncomputable def eDpr (cs : En → Sto → Rs (List Wv)) : En → Sto → Rs Wv := fun env st => (cs env st).bind dprW
@[simp] theorem x_dpr (env : En) (st : Sto) (cs : En → Sto → Rs (List Wv)) : eDpr cs env st = (cs env st).bind dprW := rfl
end
section
variable [Wtp] [Tbl]
/-! ## try whose body lets nothing out -/
theorem Cxt.nox {M : Md} {X : Cx} {B : Tb} {k : Nat} (c : Cxt M X B k) : Cxt M X.nox B k :=
  ⟨c.hP, c.hw, c.hK, c.mg, c.hb, c.hN, c.nd, c.calm, c.kind, c.room, c.gu, c.vis, c.loc, c.pl, c.gl, c.cs, fun _ => PassesOwn.never, c.lam, c.fr⟩
end
section
variable [Wtp] [Tbl]
/-! ## sorted(xs, key=len) of a list of tuples -/
def lenK : PyData → Nat
  | .tuple xs => xs.length
  | _ => 0
def isTpD : PyData → Bool
  | .tuple _ => true
  | _ => false
def slnF : PyData → Option PyData
  | .list xs => if xs.all isTpD = true ∧ xs.length ≤ 1000000 then some (.list (xs.mergeSort fun a b => decide (lenK a ≤ lenK b))) else none
  | _ => none
def eSln (co : En → Sto → Rs Wv) : En → Sto → Rs Wv := fun env st => (co env st).bind fun w st1 => look1 w st1 fun d => ret1 (slnF d) st1
@[simp] theorem x_sln (env : En) (st : Sto) (co : En → Sto → Rs Wv) : eSln co env st = (co env st).bind fun w st1 => look1 w st1 fun d => ret1 (slnF d) st1 := rfl
/-! ## list(d.items()) of a dict with tuple keys -/
def pairsD (es : List (PyData × PyData)) : List PyData := es.map fun e => .tuple [e.1, e.2]
def litF : PyData → Option PyData
  | .dict es => if kindT es = true ∧ es.length ≤ 1000000 then some (.list (pairsD es)) else none
  | _ => none
def eLit (co : En → Sto → Rs Wv) : En → Sto → Rs Wv := fun env st => (co env st).bind fun w st1 => look1 w st1 fun d => ret1 (litF d) st1
@[simp] theorem x_lit (env : En) (st : Sto) (co : En → Sto → Rs Wv) : eLit co env st = (co env st).bind fun w st1 => look1 w st1 fun d => ret1 (litF d) st1 := rfl
/-! ## 1 << j, i >> j, i & 1 -/
end
section
variable [Wtp] [Tbl]
/-! ## raise of a class without own __init__ -/
def bmV : List Value := [.type "ValueError", .type "Exception", .type "BaseException", .type "object"]
structure XcOk (M : Md) (x : Str) (C : Addr) : Prop where
  mg : M.mg x = some (.ref C)
  exc : PySem.W.excIn M.K C bmV "ValueError.__new__" = true
  keep : PySem.W.keepIn M.K (.ref C) = true
  sub : PySem.W.subIn M.K (.ref C) (.type "BaseException") = some true
  ty : PySem.W.typeIn M.K (.ref C) = some (.type "type")
def sRaise (x : Str) : En → Sto → SR := fun _ st => .ex ⟨x, []⟩ st
@[simp] theorem x_raise (x : Str) (env : En) (st : Sto) : sRaise x env st = .ex ⟨x, []⟩ st := rfl
section
variable {M : Md} {X : Cx} {B : Tb} {k : Nat} {pos p p2 p3 apos : Pos}
theorem ds_raise (c : Cxt M X B k) (j : Nat) {x m : Str} {jj : Nat} {C : Addr} (hg : B.gs[j]? = some x) (E : XcOk M x C) (hdb : (x == ("__debug__" : Str)) = false := by decide) :
    DS X (.Raise (some (.Call (.Name x p) [.Constant (.str m) jj p2] [] p3)) none pos) (sRaise x) := by
  refine ⟨fun W tk => PS.imp (ps_raise c.calm tk (pmk_own PySem.F.excBase_ValueError (by rw [c.hK]; exact E.exc) (by rw [c.mg]; exact E.mg) (by rw [c.hK]; exact E.keep) (raises_own (by rw [c.hK]; exact E.sub) (by rw [c.hK]; exact E.ty)) (c.gl j x hg) hdb)) fun D σ H ⟨m, env, st, S, R, hp⟩ => ?_⟩
  exact hp (.ref C) none σ H m .refl S ⟨⟨C, by rw [c.mg]; exact E.mg, rfl⟩, .inl ⟨rfl, rfl⟩⟩
/-! ## a def called where an exception is handled -/
structure Cxh (M : Md) (X : Cx) (B : Tb) (k : Nat) (ea : Addr) (x : Str) (C : Addr) (d : Option Addr) : Prop where
  hP : X.prog = M.P
  hw : X.w = M.w
  hK : X.K = M.K
  mg : X.mg = M.mg
  hb : X.base = M.base
  hN : X.N = B.N
  nd : B.N.Nodup
  roomH : L2H.RoomH k X.A
  vis : ∀ i ∈ B.us, ∀ x, B.N[i]? = some x → Vis X.env.scope x
  loc : ∀ i ∈ B.ls, ∀ x, B.N[i]? = some x → Loc X.env.scope x ∧ (X.fn x = true ∨ X.env.scope.names.lookup x = some .local)
  gl : ∀ (j : Nat) x, B.gs[j]? = some x → Gl X x
  cn : M.mg x = some (.ref C)
  pin : ∃ oe, (ea, oe) ∈ X.pn ∧ Zc (.ref C) d oe ∧ ∃ vs, oe.data = .fields vs
section
variable {ea C : Addr} {xn : Str} {d : Option Addr}
theorem deh_var (c : Cxh M X B k ea xn C d) (i : Nat) {x : Str} {pos : Pos} (h : B.N[i]? = some x) (hu : i ∈ B.us) (hd : (x == ("__debug__" : Str)) = false := by decide) (hc : (x == ("__classdict__" : Str)) = false := by decide) : DE X (.Name x pos) (eVar i) := by
  refine ⟨fun W tk => ⟨fun pins s σ H Q I ⟨m, env, st, S, R, hp⟩ => (pe_var (i := i) (by rw [c.hN]; exact h) (c.vis i hu x h) hd hc).run pins s σ H Q I ?_⟩⟩
  unfold eVar at hp
  split at hp
  · rename_i w e
    obtain ⟨v, hv, r⟩ := R.at' i w e
    exact ⟨v, hv, hp v H m .refl S r⟩
  · exact hp.elim
theorem dsh_set (c : Cxh M X B k ea xn C d) (i : Nat) {x : Str} {e : Expr} {ce : En → Sto → Rs Wv} {pos' : Pos} (hi : B.N[i]? = some x) (hl : i ∈ B.ls) (he : DE X e ce) (hs : swapsWith e (some (.Name x pos')) pos.line X.env = pure false := by rfl) : DS X (.Assign [.Name x pos'] e pos) (sSet i ce) := by
  obtain ⟨l1, l2⟩ := c.loc i hl x hi
  refine ⟨fun W tk => PS.imp (ps_set (by rw [c.hN]; exact c.nd) (by rw [c.hN]; exact hi) l1 (he.pe W tk) hs l2) fun D σ H ⟨m, env, st, S, R, hp⟩ => ?_⟩
  exact te_sb (f := fun env w st1 => .nx (env.set i (some w)) st1) S R hp fun w st1 v H1 m1 f1 S1 R1 r1 q => q _ H1 m1 f1 S1 (R1.set i r1)
/-- what the class must say (HandS.ExcIs) and its dict -/
def rIsX (K : Frg) (D a : Addr) (d : Option Addr) : List V → Hp → VK → Prop := fun xs H Q => ∃ (c : V) (cv : Value) (b : Bool), xs = [.ref a, c] ∧ (∀ u, RelV c u → u = cv) ∧ PySem.W.kitOne K (.ref D) cv = some b ∧ (∀ dd, d = some dd → ∃ fs, H dd = some (.xd fs)) ∧ Q (.bl b) H
theorem inst_at {pins : List (Addr × Obj)} {σ : L2.St} {H : Hp} {s : Shared} {oe : Obj} (I : Inv X pins σ H s) (hp : (ea, oe) ∈ X.pn) (hz : Zc (.ref C) d oe) (hf : ∃ vs, oe.data = .fields vs) (hx : ∀ dd, d = some dd → ∃ fs, H dd = some (.xd fs)) : ∃ od, PySem.W.InstAt s.heap ea oe C od := by
  obtain ⟨hget, _⟩ := I.pin (ea, oe) (List.mem_append.mpr (.inl hp))
  obtain ⟨vs, hv⟩ := hf
  have no : PySem.W.notCls oe = true := by unfold PySem.W.notCls; rw [hv] <;> rfl
  cases d with
  | none => exact ⟨none, hget, hz.1, no, by rw [hz.2]; trivial⟩
  | some dd =>
    obtain ⟨fs, ea'⟩ := hx dd rfl
    have hx : ObjOk X.prog X.w H s.heap dd (.xd fs) := I.hok dd _ ea'
    obtain ⟨mA, hns, hr⟩ := hx
    obtain ⟨od, ho, hl⟩ := lookIn_ns hns
    exact ⟨some od, hget, hz.1, no, by rw [hz.2]; exact ho⟩
theorem call_isX {oe : Obj} (T : ExcC X.K C) (hp : (ea, oe) ∈ X.pn) (hz : Zc (.ref C) d oe) (hf : ∃ vs, oe.data = .fields vs) : CallR X (.builtin "isinstance") (rIsX X.K C ea d) := by
  intro pins s σ H xs us Q I r h
  obtain ⟨c, cv, b, rfl, hcv, e, hx, q⟩ := h
  cases r with
  | cons rx rr =>
    cases rr with
    | cons rt rr =>
      cases rr
      cases rx
      have ec := hcv _ rt
      subst ec
      obtain ⟨od, J⟩ := inst_at I hp hz hf hx
      refine PySem.W.kia_one (PySem.W.kitx_exc ?_ T.hg T.hk T.hs T.ha T.hn T.ht T.hm) I.kIn J e (fun z => nomatch z) fun tk => ⟨.bl b, H, I.kept (t' := tk) fun _ _ z => z, rfl, q⟩
      obtain ⟨cd, h1, _⟩ := PySem.W.any_some T.hd
      rw [h1]; rfl
/-- isinstance(e, c) -/
def xHas (ea : Addr) (xn : Str) (d : Option Addr) (w : Wv) : Bool := match w with
  | .x a c p => decide (a = ea ∧ c = xn ∧ p.map (·.1) = d)
  | _ => false
def eIsx (ea : Addr) (xn : Str) (d : Option Addr) (b : Bool) (i : Nat) : En → Sto → Rs Wv := fun env st => match env[i]? with
  | some (some w) => if xHas ea xn d w = true then .ok (.d (.bool b)) st else .no
  | _ => .no
theorem xhas_of {K : Frg} {H : Hp} {m : Mp} {n : Nat} {v : V} {w : Wv} (h : xHas ea xn d w = true) (r : RW K H m n v w) : v = .ref ea ∧ ∃ p : Option (Addr × List (Str × PyData)), w = .x ea xn p ∧ p.map (·.1) = d ∧ ∀ q, p = some q → XdAt K H m n q.1 q.2 := by
  unfold xHas at h
  split at h
  · rename_i a c p
    obtain ⟨rfl, rfl, h3⟩ := of_decide_eq_true h
    exact ⟨r.1, p, rfl, h3, r.2⟩
  · cases h
theorem dict_of {K : Frg} {H : Hp} {m : Mp} {n : Nat} {p : Option (Addr × List (Str × PyData))} (h1 : p.map (·.1) = d) (h2 : ∀ q, p = some q → XdAt K H m n q.1 q.2) : ∀ dd, d = some dd → ∃ fs, H dd = some (.xd fs) := fun dd e => by
  subst h1
  cases p with
  | none => cases e
  | some q =>
    cases e
    obtain ⟨fs, h, _⟩ := h2 q rfl
    exact ⟨fs, h⟩
theorem isx_go (c : Cxh M X B k ea xn C d) {i : Nat} {b : Bool} {cv : Value} {c1 : V} {σ : L2.St} {H : Hp} {Q : VK} {W : WX} (hcv : ∀ u, RelV c1 u → u = cv) (e : PySem.W.kitOne M.K (.ref C) cv = some b) (h : tE X W (eIsx ea xn d b i) σ H Q) :
    tCB (rIsX X.K C ea d) (tCons (tVar i) (tCons (tC c1) tNil)) σ H Q := by
  obtain ⟨m, env, st, S, R, hp⟩ := h
  unfold eIsx at hp
  split at hp
  · rename_i w ew
    split at hp
    · rename_i hx
      obtain ⟨v, hv, r⟩ := R.at' i w ew
      obtain ⟨rfl, p, rfl, h1, h2⟩ := xhas_of hx r
      exact ⟨_, hv, c1, cv, b, rfl, hcv, by rw [c.hK]; exact e, dict_of h1 h2, hp (.bl b) H m .refl S (.bl b)⟩
    · exact hp.elim
  · exact hp.elim
theorem deh_isg (c : Cxh M X B k ea xn C d) (T : ExcC M.K C) (i j jj : Nat) {x y : Str} {C2 : Addr} {b : Bool} {p4 p5 : Pos} (h : B.N[i]? = some x) (hu : i ∈ B.us) (hi : B.gs[jj]? = some ("isinstance" : Str)) (hm : M.mg "isinstance" = none) (hg : B.gs[j]? = some y) (hy : M.mg y = some (.ref C2)) (e : PySem.W.kitOne M.K (.ref C) (.ref C2) = some b)
    (hd : (x == ("__debug__" : Str)) = false := by decide) (hc : (x == ("__classdict__" : Str)) = false := by decide) (hd2 : (y == ("__debug__" : Str)) = false := by decide)
    (he : starEach [.Name x p, .Name y p2] X.env = (false, eval (.Name x p) X.env) :: starEach [.Name y p2] X.env := by rfl) (hpl : (backTo pos (starEach [.Name y p2] X.env)).any (·.1) = false := by rfl) :
    DE X (.Call (.Name "isinstance" p4) [.Name x p, .Name y p2] [] pos) (eIsx ea xn d b i) := by
  obtain ⟨oe, hp, hz, hf⟩ := c.pin
  refine ⟨fun W tk => PE.imp (pe_callB (call_isX (by rw [c.hK]; exact T) hp hz hf) (c.gl jj _ hi) (by rw [c.mg]; exact hm) (by decide +kernel) (pa_cons (pe_var (i := i) (by rw [c.hN]; exact h) (c.vis i hu x h) hd hc) (pa_cons (pe_glob (v := .ref C2) (c.gl j y hg) (by rw [c.mg]; exact hy) rfl hd2) pa_nil)) (by decide) (by decide) he hpl) fun σ H Q => isx_go c (fun u hu => hu) e⟩
theorem deh_isb (c : Cxh M X B k ea xn C d) (T : ExcC M.K C) (i j jj : Nat) {x y : Str} {ty : String} {b : Bool} {p4 p5 : Pos} (h : B.N[i]? = some x) (hu : i ∈ B.us) (hi : B.gs[jj]? = some ("isinstance" : Str)) (hm : M.mg "isinstance" = none) (hg : B.gs[j]? = some y) (hy : M.mg y = none) (hv : bootBuiltins y = some (.type ty)) (e : PySem.W.kitOne M.K (.ref C) (.type ty) = some b)
    (hd : (x == ("__debug__" : Str)) = false := by decide) (hc : (x == ("__classdict__" : Str)) = false := by decide) (hd2 : (y == ("__debug__" : Str)) = false := by decide) (hn : y ≠ "__name__" := by decide)
    (he : starEach [.Name x p, .Name y p2] X.env = (false, eval (.Name x p) X.env) :: starEach [.Name y p2] X.env := by rfl) (hpl : (backTo pos (starEach [.Name y p2] X.env)).any (·.1) = false := by rfl) :
    DE X (.Call (.Name "isinstance" p4) [.Name x p, .Name y p2] [] pos) (eIsx ea xn d b i) := by
  obtain ⟨oe, hp, hz, hf⟩ := c.pin
  refine ⟨fun W tk => PE.imp (pe_callB (call_isX (by rw [c.hK]; exact T) hp hz hf) (c.gl jj _ hi) (by rw [c.mg]; exact hm) (by decide +kernel) (pa_cons (pe_var (i := i) (by rw [c.hN]; exact h) (c.vis i hu x h) hd hc) (pa_cons (pe_bltn (v := .ty ty) (c.gl j y hg) (by rw [c.mg]; exact hy) hv rfl hn hd2) pa_nil)) (by decide) (by decide) he hpl) fun σ H Q => isx_go c (fun u hu => hu) e⟩
/-- e.f -/
def eXf (ea : Addr) (xn : Str) (d : Option Addr) (f : Str) (i : Nat) : En → Sto → Rs Wv := fun env st => match env[i]? with
  | some (some (.x a c (some (dd, es)))) => if a = ea ∧ c = xn ∧ some dd = d then match es.lookup f with
    | some y => .ok (.d y) st
    | none => .no
    else .no
  | _ => .no
theorem xd_get {K : Frg} {H : Hp} {Z : Addr → Prop} {f : Str} {y : PyData} : ∀ {fs : List (Str × V)} {es : List (Str × PyData)}, fs.map (·.1) = es.map (·.1) → RpA K H Z (fs.map (·.2)) (es.map (·.2)) → es.lookup f = some y → ∃ v, fs.lookup f = some v ∧ Rp K H Z v y
  | [], [], _, _, e => by cases e
  | [], _ :: _, h, _, _ => by cases h
  | _ :: _, [], h, _, _ => by cases h
  | (a, v) :: fs, (a2, d2) :: es, h, r, e => by
    simp only [List.map_cons, List.cons.injEq] at h
    obtain ⟨rfl, h⟩ := h
    cases r with
    | cons r1 r2 =>
      rw [List.lookup_cons] at e ⊢
      split at e
      · cases e
        exact ⟨v, rfl, r1⟩
      · exact xd_get h r2 e
theorem deh_xf (c : Cxh M X B k ea xn C d) (T : XfC M.K C) (i : Nat) {x f : Str} (hno : PySem.W.findIn M.K (.ref C) f = some none) (h : B.N[i]? = some x) (hu : i ∈ B.us) (hd : (x == ("__debug__" : Str)) = false := by decide) (hc : (x == ("__classdict__" : Str)) = false := by decide)
    (hb : attributeBase (.Name x p) f X.env (eval (.Name x p) X.env) = eval (.Name x p) X.env := by rfl) : DE X (.Attribute (.Name x p) f pos) (eXf ea xn d f i) := by
  obtain ⟨oe, hp, hz, ovs, hd3⟩ := c.pin
  refine ⟨fun W tk => ⟨fun pins s σ H Q I ⟨m, env, st, S, R, hq⟩ => ?_⟩⟩
  unfold eXf at hq
  split at hq
  · rename_i a cc dd es ew
    split at hq
    · rename_i hcond
      obtain ⟨rfl, rfl, hdd⟩ := hcond
      subst hdd
      split at hq
      · rename_i y ey
        obtain ⟨v, hv, r⟩ := R.at' i _ ew
        obtain ⟨rv, rx⟩ := r
        subst rv
        obtain ⟨fs, hxd, hn, hra, hoff⟩ := rx _ rfl
        obtain ⟨vf, hl, rf⟩ := xd_get hn hra ey
        refine attr_of hb (thn ((pe_var (i := i) (by rw [c.hN]; exact h) (c.vis i hu x h) hd hc).run pins s σ H (fun v1 H1 => v1 = .ref a ∧ H1 = H) I ⟨_, hv, rfl, rfl⟩) fun u s1 hh => ?_)
        obtain ⟨v1, H1, I1, r1, rfl, rfl⟩ := hh
        obtain rfl : u = Value.ref a := r1
        obtain ⟨ha, _⟩ := I1.pin (a, oe) (List.mem_append.mpr (.inl hp))
        have hx : ObjOk X.prog X.w H1 s1.heap dd (.xd fs) := I1.hok dd _ hxd
        obtain ⟨mA, hns, hr⟩ := hx
        obtain ⟨od, ho, hlk⟩ := lookIn_ns hns
        obtain ⟨u2, hu2, ru⟩ := RelO.some_of (v := vf) (o := mA f) (by rw [← hl]; exact hr f)
        have J : PySem.W.InstAt s1.heap a oe C (some od) := ⟨ha, hz.1, by unfold PySem.W.notCls; rw [hd3] <;> rfl, by rw [hz.2]; exact ho⟩
        have TT : XfC X.K C := by rw [c.hK]; exact T
        have hno' : PySem.W.findIn X.K (.ref C) f = some none := by rw [c.hK]; exact hno
        exact HandSPX.exc_get I1.kIn J TT.ga TT.gg TT.exC (PySem.W.findObj_own TT.hdC hno' rfl (by rw [hlk, hu2])) (handed_of ru) ⟨vf, H1, I1.tok _, ru, hq vf H1 m .refl S rf⟩
      · exact hq.elim
    · exact hq.elim
  · exact hq.elim
end
end
end
section
variable [Wtp] [Tbl]
section
variable {M : Md} {X : Cx} {B : Tb} {k : Nat} {pos p p2 p3 apos : Pos} {ea C : Addr} {xn : Str} {d : Option Addr}
/-- isinstance(e, (c, ..)) -/
def rIsXT (K : Frg) (D a : Addr) (d : Option Addr) (tys : List String) : List V → Hp → VK → Prop := fun xs H Q => ∃ (tp : Addr) (b : Bool), xs = [.ref a, .ref tp] ∧ H tp = some (.tup (tys.map V.ty)) ∧ PySem.W.kitAny K (.ref D) (tys.map Value.type) = some b ∧ (∀ dd, d = some dd → ∃ fs, H dd = some (.xd fs)) ∧ Q (.bl b) H
theorem vals_tys : ∀ {tys : List String} {us : List Value}, Vals (tys.map V.ty) us → us = tys.map Value.type
  | [], _, h => by cases h; rfl
  | t :: ts, _, h => by
    rw [List.map_cons] at h
    cases h with
    | cons h1 h2 => rw [vals_tys h2, show _ = Value.type t from h1]; rfl
theorem call_isXT {oe : Obj} {tys : List String} (T : ExcC X.K C) (hp : (ea, oe) ∈ X.pn) (hz : Zc (.ref C) d oe) (hf : ∃ vs, oe.data = .fields vs) : CallR X (.builtin "isinstance") (rIsXT X.K C ea d tys) := by
  intro pins s σ H xs us Q I r h
  obtain ⟨tp, b, rfl, ht, e, hx, q⟩ := h
  cases r with
  | cons rx rr =>
    cases rr with
    | cons rt rr =>
      cases rr
      cases rx
      cases rt
      obtain ⟨od, J⟩ := inst_at I hp hz hf hx
      obtain ⟨its, rv, ⟨⟨cls, dd, data, sl⟩, ho, hc, n, hd⟩, _⟩ := I.tuple (.inl (.inl ht))
      simp only at hc hd
      subst hc hd
      have ei := vals_tys rv
      refine PySem.W.kia_tup (its := its) (PySem.W.kitx_exc ?_ T.hg T.hk T.hs T.ha T.hn T.ht T.hm) I.kIn J ho (by rw [ei]; exact e) (fun z => nomatch z) fun tk => ⟨.bl b, H, I.kept (t' := tk) fun _ _ z => z, rfl, q⟩
      obtain ⟨cd, h1, _⟩ := PySem.W.any_some T.hd
      rw [h1]; rfl
theorem deh_ist (c : Cxh M X B k ea xn C d) (T : ExcC M.K C) (i jj : Nat) {x : Str} {t1 t2 t3 t4 : Str} {y1 y2 y3 y4 : String} {b : Bool} {j1 j2 j3 j4 kt : Nat} {p4 p5 p6 p7 p8 p9 : Pos} (h : B.N[i]? = some x) (hu : i ∈ B.us) (hi : B.gs[jj]? = some ("isinstance" : Str)) (hm : M.mg "isinstance" = none)
    (g1 : B.gs[j1]? = some t1) (g2 : B.gs[j2]? = some t2) (g3 : B.gs[j3]? = some t3) (g4 : B.gs[j4]? = some t4) (m1 : M.mg t1 = none) (m2 : M.mg t2 = none) (m3 : M.mg t3 = none) (m4 : M.mg t4 = none)
    (b1 : bootBuiltins t1 = some (.type y1)) (b2 : bootBuiltins t2 = some (.type y2)) (b3 : bootBuiltins t3 = some (.type y3)) (b4 : bootBuiltins t4 = some (.type y4)) (n1 : t1 ≠ "__name__" ∧ (t1 == ("__debug__" : Str)) = false) (n2 : t2 ≠ "__name__" ∧ (t2 == ("__debug__" : Str)) = false) (n3 : t3 ≠ "__name__" ∧ (t3 == ("__debug__" : Str)) = false) (n4 : t4 ≠ "__name__" ∧ (t4 == ("__debug__" : Str)) = false)
    (e : PySem.W.kitAny M.K (.ref C) ([y1, y2, y3, y4].map Value.type) = some b)
    (hd : (x == ("__debug__" : Str)) = false := by decide) (hc : (x == ("__classdict__" : Str)) = false := by decide)
    (he : starEach [.Name x p, .Tuple [.Name t1 p5, .Name t2 p6, .Name t3 p7, .Name t4 p8] kt p9] X.env = (false, eval (.Name x p) X.env) :: starEach [.Tuple [.Name t1 p5, .Name t2 p6, .Name t3 p7, .Name t4 p8] kt p9] X.env := by rfl) (hpl : (backTo pos (starEach [.Tuple [.Name t1 p5, .Name t2 p6, .Name t3 p7, .Name t4 p8] kt p9] X.env)).any (·.1) = false := by rfl) :
    DE X (.Call (.Name "isinstance" p4) [.Name x p, .Tuple [.Name t1 p5, .Name t2 p6, .Name t3 p7, .Name t4 p8] kt p9] [] pos) (eIsx ea xn d b i) := by
  obtain ⟨oe, hp, hz, hf⟩ := c.pin
  have P : ∀ {t : Str} {y : String} {j : Nat} {q : Pos}, B.gs[j]? = some t → M.mg t = none → bootBuiltins t = some (.type y) → t ≠ "__name__" ∧ (t == ("__debug__" : Str)) = false → PE X (.Name t q) (tC (.ty y)) := fun {t y j q} g m b n => pe_bltn (c.gl j t g) (by rw [c.mg]; exact m) b rfl n.1 n.2
  refine ⟨fun W tk => PE.imp (pe_callB (call_isXT (tys := [y1, y2, y3, y4]) (by rw [c.hK]; exact T) hp hz hf) (c.gl jj _ hi) (by rw [c.mg]; exact hm) (by decide +kernel) (pa_cons (pe_var (i := i) (by rw [c.hN]; exact h) (c.vis i hu x h) hd hc) (pa_cons (pe_tup (pa_cons (P g1 m1 b1 n1) (pa_cons (P g2 m2 b2 n2) (pa_cons (P g3 m3 b3 n3) (pa_cons (P g4 m4 b4 n4) pa_nil))))) pa_nil)) (by decide) (by decide) he hpl) fun σ H Q ⟨m, env, st, S, R, hp⟩ => ?_⟩
  unfold eIsx at hp
  split at hp
  · rename_i w ew
    split at hp
    · rename_i hx
      obtain ⟨v, hv, r⟩ := R.at' i w ew
      obtain ⟨rfl, pp, rfl, h1, h2⟩ := xhas_of hx r
      refine ⟨_, hv, ⟨by show 4 ≤ sizeLine; rw [sizeLine_eq]; omega, fun q hn => ?_⟩⟩
      have g := grow_upd (o := .tup ([y1, y2, y3, y4].map V.ty)) hn
      refine ⟨q, b, rfl, upd_same, by rw [c.hK]; exact e, fun dd ed => ?_, hp (.bl b) _ m (.same g) (S.grow g) (.bl b)⟩
      obtain ⟨fs, hfs⟩ := dict_of h1 h2 dd ed
      exact ⟨fs, g _ _ hfs⟩
    · exact hp.elim
  · exact hp.elim
/-! ## l.index(b) of bools -/
def posB (b : Bool) : List Bool → Option Nat
  | [] => none
  | x :: r => if x = b then some 0 else (posB b r).map (· + 1)
def idxD : PyData → List PyData → Option PyData
  | .list xs, [.bool b] => match boolsOf xs with
    | some bs => (posB b bs).map fun j => .int (j : Nat)
    | none => none
  | _, _ => none
theorem posB_at {b : Bool} : ∀ {bs : List Bool} {j : Nat}, posB b bs = some j → bs[j]? = some b ∧ ∀ m z, m < j → bs[m]? = some z → z ≠ b
  | [], _, h => by cases h
  | x :: r, j, h => by
    unfold posB at h
    split at h
    · cases h
      exact ⟨by simp [*], fun m z hm => absurd hm (Nat.not_lt_zero m)⟩
    · rename_i hx
      cases e : posB b r with
      | none => rw [e] at h; cases h
      | some i =>
        rw [e] at h
        cases h
        obtain ⟨h1, h2⟩ := posB_at e
        refine ⟨h1, fun m z hm hz => ?_⟩
        cases m with
        | zero => simp at hz; subst hz; exact hx
        | succ m => exact h2 m z (Nat.lt_of_succ_lt_succ (show m + 1 < i + 1 from hm)) (by simpa using hz)
theorem bools_rp {K : Frg} {H : Hp} {Z : Addr → Prop} : ∀ {xs : List PyData} {vs : List V} {bs : List Bool}, boolsOf xs = some bs → RpA K H Z vs xs → vs = bs.map V.bl := by
  intro xs
  induction xs with
  | nil => intro vs bs e r; cases e; cases r; rfl
  | cons x xs ih =>
    intro vs bs e r
    cases r with
    | cons r1 r2 =>
      cases x with
      | bool b =>
        unfold boolsOf at e
        cases q : boolsOf xs with
        | none => rw [q] at e; cases e
        | some cs =>
          rw [q] at e
          cases e
          cases r1
          rw [ih q r2]; rfl
      | _ => cases e
theorem m_index : MtR X "list.index" (rMd X.K idxD) := by
  intro pins s σ H x xs v us Q I rx rxs ⟨Z, d, ds, r, hz, hd, hds, hf, ho⟩
  unfold idxD at hf
  split at hf
  · rename_i ys b
    split at hf
    · rename_i bs hbs
      cases e : posB b bs with
      | none => rw [e] at hf; cases hf
      | some j =>
        rw [e] at hf
        cases hf
        obtain ⟨a, vs, rfl, h1, h2⟩ := hd.lst
        obtain ⟨z, rfl, h'⟩ := rts1 hds
        have ez := h'.bl
        subst ez
        have ev := bools_rp hbs h2
        subst ev
        obtain ⟨p1, p2⟩ := posB_at e
        refine mt_index pins s σ H _ _ v us Q I rx rxs ⟨a, bs.map V.bl, .bl b, j, .bl b, rfl, rfl, h1.sq, rfl, by rw [List.all_map]; simp [Function.comp_def, flatV], by rw [List.getElem?_map, p1]; rfl, by cases b <;> rfl, fun m z' hm hz' => ?_, rout_here ho (.int _)⟩
        rw [List.getElem?_map] at hz'
        cases q : bs[m]? with
        | none => rw [q] at hz'; cases hz'
        | some zb =>
          rw [q] at hz'
          cases hz'
          have := p2 m zb hm q
          cases zb <;> cases b <;> first | rfl | exact absurd rfl this
    · cases hf
  · cases hf
theorem deh_index {o e : Expr} {es : List Expr} {co : En → Sto → Rs Wv} {cs : En → Sto → Rs (List Wv)} (ho : DE X o co) (ha : DA X (e :: es) cs)
    (hbase : attributeBase o "index" X.env (eval o X.env) = eval o X.env := by rfl)
    (hfew : ((backTo pos (starEach (e :: es) X.env)).all (fun x => !x.1) && (backToKw pos (keywordEach [] X.env)).all (fun x => x.1.isSome)
      && decide ((e :: es).length + ([] : List Keyword).length + (if ([] : List Keyword).isEmpty then 0 else 1) < 30)) = true := by rfl)
    (hline : (apos.endLine == pos.line) = true := by rfl) (hs : starEach (e :: es) X.env = (false, eval e X.env) :: starEach es X.env := by rfl) (hplain : (backTo pos (starEach es X.env)).any (·.1) = false := by rfl) :
    DE X (.Call (.Attribute o "index" apos) (e :: es) [] pos) (eMd idxD co cs) :=
  ⟨fun W tk => PE.imp (pe_bm PySem.F.plainAttrs_list PySem.F.slot_list_index PySem.F.type_list_index m_index (ho.pe W tk) (ha.pa W tk) hbase hfew hline hs hplain) fun σ H Q => te_md idxD⟩
theorem deh_count (hr : L2H.RoomH k X.A) {o e : Expr} {es : List Expr} {co : En → Sto → Rs Wv} {cs : En → Sto → Rs (List Wv)} (ho : DE X o co) (ha : DA X (e :: es) cs)
    (hbase : attributeBase o "count" X.env (eval o X.env) = eval o X.env := by rfl)
    (hfew : ((backTo pos (starEach (e :: es) X.env)).all (fun x => !x.1) && (backToKw pos (keywordEach [] X.env)).all (fun x => x.1.isSome)
      && decide ((e :: es).length + ([] : List Keyword).length + (if ([] : List Keyword).isEmpty then 0 else 1) < 30)) = true := by rfl)
    (hline : (apos.endLine == pos.line) = true := by rfl) (hs : starEach (e :: es) X.env = (false, eval e X.env) :: starEach es X.env := by rfl) (hplain : (backTo pos (starEach es X.env)).any (·.1) = false := by rfl) :
    DE X (.Call (.Attribute o "count" apos) (e :: es) [] pos) (eMd cntD co cs) :=
  ⟨fun W tk => PE.imp (pe_bm PySem.F.plainAttrs_list PySem.F.slot_list_count PySem.F.type_list_count (m_count hr) (ho.pe W tk) (ha.pa W tk) hbase hfew hline hs hplain) fun σ H Q => te_md cntD⟩
end
end
section
variable [Wtp] [Tbl]
/-! ## the call of a def on a handled exception -/
theorem fnx_of {M : Md} {B : Tb} {k : Nat} {f : Addr} {name qual : Str} {params : Arguments} {body : List Stmt} {scope : Scope} {dV kV doc pm cdv ct oc : Value} {an od : Option Addr} {osl : Array (Option Value)} {a0 : Str} {cb : En → Sto → SR} {nN : Nat} {ea C : Addr} {xn : Str} {d : Option Addr}
    (hf : M.K.lookup f = some ⟨oc, od, .func (PySem.W.fnOf name qual params body scope dV kV doc pm an cdv ct), osl⟩) (hcode : PySem.W.codeIn M.K cdv qual = true) (SC : FnScope B.N [a0] scope) (hT : fnT B scope = true) (hnN : B.N.length = nN)
    (hb : ∀ X : Cx, Cxh M X B k ea xn C d → DB X body cb) (hcn : M.mg xn = some (.ref C))
    {A : Around} {outer : List Env} {s : Shared} {H : Hp} {args : Args} {us : List Value} {m : Mp} {st : Sto} {oe : Obj} {p : Option (Addr × List (Str × PyData))} {Q : VK}
    (room : L2H.RoomH (k + 1) A) (hpin : L2H.PinOk outer H s (ea, oe)) (hz : Zc (.ref C) d oe) (hfl : ∃ vs, oe.data = .fields vs) (e0 : Env0 M.P M.w M.K M.mg M.base A outer s H) (bound : BindsTo s (PySem.W.fnOf name qual params body scope dV kV doc pm an cdv ct) args ([a0].zip us)) (rv : Vals [.ref ea] us) (S : Sim M.K H m st)
    (hx : ∀ q, p = some q → XdAt M.K H m st.length q.1 q.2)
    (hp : (mkF 1 nN cb [.x ea xn p] st).post (fun w st' => ∀ v H' m', Fol m st.length H m' st'.length H' → Sim M.K H' m' st' → RW M.K H' m' st'.length v w → Q v H') (fun _ _ => False)) :
    codeAny (model M.P M.w) A (.call (.ref f) args) (CR (L2.CX M.P M.w) outer M.P M.w H s Q fun _ _ _ => False) s := by
  have inK : M.K.In s.heap := e0.mod.kin.keeps fun b o e => (e0.bs b o e).1
  have noLim : s.heap.NoLimit := e0.mod.nolimit.keeps fun b o e => (e0.bs b o e).1
  have kinds : ∀ y ∈ [a0].zip us, scope.names.lookup y.1 = some .local ∨ (scope.names.lookup y.1 = some .cell ∧ ((cellsFrom (s.heap.objs.size + 1) scope.names []).lookup y.1).isSome = true) := by
    rintro ⟨y, v⟩ hy
    have hy' := SC.par y (List.of_mem_zip hy).1
    exact hy'.imp id fun q => ⟨q, PySem.W.cellsFrom_some _ _ _ (.inl q)⟩
  refine codeAny_call_function room.depth (inK _ _ hf) rfl SC.co SC.gen rfl (PySem.W.codeRec_of inK hcode) (bound _ _ _ _ (wpAny_newFunctionEnv_cells SC.kind kinds fun env henv s1 x => ?_))
  subst henv
  refine ⟨noLim.keeps x.toInCall.keep, codeAny_func ?_⟩
  generalize hX : L2H.cxH (L2.CX M.P M.w) M.P M.w M.K M.mg M.base B.N qual scope f cdv A outer s H (fun _ _ _ => False) (ea, oe) = X
  have hI : Inv X [] (start B.N [.ref ea]) H s1 := by rw [← hX]; exact L2H.inv_startH SC hpin e0 rfl rv x
  unfold fnT at hT
  simp only [Bool.and_eq_true, List.all_eq_true, decide_eq_true_eq] at hT
  obtain ⟨t1, t2, t3, t4, t5, t6⟩ := hT
  have hC : Cxh M X B k ea xn C d := by
    subst hX
    refine ⟨rfl, rfl, rfl, rfl, rfl, rfl, SC.nd, room.deeper _, fun i hi x hx => ?_, fun i hi x hx => ?_, fun j x hx => kdG_gl (t4 x (List.mem_of_getElem? hx)), hcn, oe, List.mem_cons_self, hz, hfl⟩
    · have q := t1 i hi
      rw [hx] at q
      exact kdV_vis q
    · have q := t2 i hi
      rw [hx] at q
      exact ⟨kdL_loc q, .inl rfl⟩
  have tk : Takes X (fun c d _ H' => False) := by subst hX; exact takes_of rfl rfl rfl rfl
  have hR : EnvR X.K H m st.length ([some (.x ea xn p)] ++ List.replicate (nN - 1) none) (start B.N [.ref ea]) := by
    refine ⟨?_, fun i w hw => ?_⟩
    · unfold L2.start; simp [hnN]
    · cases i with
      | zero =>
        simp at hw
        subst hw
        refine ⟨.ref ea, by unfold L2.start; simp, rfl, fun q hq => by subst hX; exact hx q hq⟩
      | succ i =>
        rw [List.getElem?_append_right (by simp)] at hw
        have := List.mem_of_getElem? hw
        simp at this
  have hK : X.K = M.K := hC.hK
  have run := ((hb X hC).pss _ tk).run [] s1 (start B.N [.ref ea]) H { nx := fun _ H' => Q .non H', rt := fun v H' => ∃ as, ∀ os, Q v (fzH H' as os) } hI
  unfold mkF at hp
  rw [if_pos (show [Wv.x ea xn p].length = 1 from rfl)] at hp
  have hp2 := SR.post_end hp
  have fin : ∀ {σ' : L2.St} {H' : Hp} {v : V} {u : Value} {s' : Shared}, Inv X [] σ' H' s' → RelV v u → Q v H' → CE outer M.P M.w H s Q u s' := fun {σ' H' v u s'} J rv q => by
    subst hX
    exact ⟨v, H', J.os, J.bare, J.base, J.hok, rv, q⟩
  have run2 := run ⟨m, _, st, by rw [hK]; exact S, hR, SR.post_mono hp2 (fun env st' q σ' H' m' f S' _ => ?_) (fun p st' q v H' m' f S' r => ?_) fun e st' q c d σ' H' m' f S' r => q⟩
  · subst hX
    refine wpAny_mono run2 (fun fl s' hs => ?_) fun e s' hs => hs
    cases fl with
    | ret u => obtain ⟨v, σ', H', J, rv, as, q⟩ := hs; obtain ⟨os, J2⟩ := freezeAll J as; exact fin J2 rv (q os)
    | next => obtain ⟨σ', H', J, q⟩ := hs; exact fin (v := V.non) (u := Value.none) J rfl q
    | brk => obtain ⟨_, _, _, q⟩ := hs; exact q.elim
    | cont => obtain ⟨_, _, _, q⟩ := hs; exact q.elim
  · have tl : (st'.take st.length).length = st.length := by rw [List.length_take]; have := f.le; omega
    rw [hK] at S'
    exact q .non H' m' (by rw [tl]; exact f.back) (S'.take f.le) .non
  · have tl : (st'.take st.length).length = st.length := by rw [List.length_take]; have := f.le; omega
    rw [hK] at S' r
    have plain : Q v H' → ∃ as, ∀ os, Q v (fzH H' as os) := fun z => ⟨[], fun os => by rw [fz_nil]; exact z⟩
    unfold endR at q
    split at q
    · exact plain (q _ H' m' (by rw [tl]; exact f.back) (S'.take f.le) (by rw [tl]; exact Rp.mv r (.le f.le)))
    · exact q.elim
    · rename_i i
      split at q
      · rename_i hi
        exact plain (q _ H' m' (by rw [tl]; exact f.back) (S'.take f.le) (by rw [tl]; exact ⟨hi, r.2⟩))
      · rename_i hi
        split at q
        · rename_i o eo
          have tl2 : (st'.take st.length ++ [o]).length = st.length + 1 := by simp [tl]
          exact plain (q _ H' (mup m' st.length (m'.ix i)) (by rw [tl2]; exact f.keep1 (by omega) r.1) (S'.keep1 (by omega) eo) (by rw [tl2]; exact ⟨Nat.lt_succ_self _, by rw [mup_new]; exact r.2⟩))
        · exact q.elim
    · rename_i w
      split at q
      · rename_i x ex
        have hA : AsNew m' st.length st'.length (newA st.length m' w) := newA_new (fun i e => by subst e; exact r.1)
        exact ⟨newA st.length m' w, fun os => q _ _ m' (by rw [tl]; exact (f.fz hA).back) (S'.fz f.le hA) (by rw [tl]; exact rw_frz S' f.le r ex (newA_all ex))⟩
      · exact q.elim
    · rename_i ws
      split at q
      · rename_i xs ex
        obtain ⟨a, u, us', rfl, h1, hu, h2⟩ := r
        have hA : AsNew m' st.length st'.length (ws.flatMap (newA st.length m')) := newAs_new h2
        exact ⟨ws.flatMap (newA st.length m'), fun os => q _ _ m' (by rw [tl]; exact (f.fz hA).back) (S'.fz f.le hA) (by rw [tl]; exact .tup (hu.tp (fz_same h1 hu.nK hu.nT)) (rws_frz S' f.le h2 ex fun a ha => by
          obtain ⟨w, hw, hb⟩ := List.mem_flatMap.mp ha
          obtain ⟨x, ex2⟩ := frzA_mem ex w hw
          exact List.mem_flatMap.mpr ⟨w, hw, newA_all ex2 a hb⟩))⟩
      · exact q.elim
end
section
variable [Wtp] [Tbl]
open LamX
/-! ## the def on handled exceptions -/
structure FlFn (M : Md) (fl : Str) (k nN : Nat) (cb : Addr → Str → Option Addr → En → Sto → SR) (ok : Str → Addr → Prop) : Prop where
  at' : ∃ (f : Addr) (fd : FuncData) (a0 : Str), M.mg fl = some (.ref f) ∧ PySem.W.keepIn M.K (.ref f) = true ∧ Binds M.K fd [a0] [] ∧
    ∀ (ea C : Addr) (xn : Str) (d : Option Addr), M.mg xn = some (.ref C) → ok xn C → ∀ (A : Around) (outer : List Env) (s : Shared) (H : Hp) (args : Args) (us : List Value) (m : Mp) (st : Sto) (oe : Obj) (p : Option (Addr × List (Str × PyData))) (Q : VK),
      L2H.RoomH (k + 1) A → L2H.PinOk outer H s (ea, oe) → Zc (.ref C) d oe → (∃ vs, oe.data = .fields vs) → Env0 M.P M.w M.K M.mg M.base A outer s H → BindsTo s fd args ([a0].zip us) → Vals [.ref ea] us → Sim M.K H m st → (∀ q, p = some q → XdAt M.K H m st.length q.1 q.2) →
      (mkF 1 nN (cb ea xn d) [.x ea xn p] st).post (fun w st' => ∀ v H' m', Fol m st.length H m' st'.length H' → Sim M.K H' m' st' → RW M.K H' m' st'.length v w → Q v H') (fun _ _ => False) →
      codeAny (model M.P M.w) A (.call (.ref f) args) (CR (L2.CX M.P M.w) outer M.P M.w H s Q fun _ _ _ => False) s
theorem flfn_of {M : Md} {fl a0 : Str} {sf : Stmt} {B : Tb} {k nN : Nat} {cb : Addr → Str → Option Addr → En → Sto → SR} {ok : Str → Addr → Prop} (T : TopFn M fl sf [a0]) (SC : FnScope B.N [a0] (defScope sf)) (hT : fnT B (defScope sf) = true) (hnN : B.N.length = nN)
    (hb : ∀ (ea C : Addr) (xn : Str) (d : Option Addr), ok xn C → ∀ X : Cx, Cxh M X B k ea xn C d → DB X (defBody sf) (cb ea xn d)) : FlFn M fl k nN cb ok := by
  obtain ⟨f, od, an, sl, oc, kV, dc, pm, cd, ct, h1, h2, h3, h4, h5⟩ := T.at'
  exact ⟨f, _, a0, h1, h4, h5, fun ea C xn d hcn hok A outer s H args us m st oe p Q room pin hz hf e0 bd rv S hx hp => fnx_of h2 h3 SC hT hnN (fun X c => hb ea C xn d hok X c) hcn room pin hz hf e0 bd rv S hx hp⟩
/-- what the suite asks -/
def flP (M : Md) (nN : Nat) (cb : Addr → Str → Option Addr → En → Sto → SR) (ok : Str → Addr → Prop) : Value → Option Addr → Addr → Hp → VK → Prop := fun cls d ea H Q =>
  ∃ (m : Mp) (st : Sto) (xn : Str) (C : Addr) (p : Option (Addr × List (Str × PyData))), cls = .ref C ∧ M.mg xn = some (.ref C) ∧ ok xn C ∧ Sim M.K H m st ∧ (∀ q, p = some q → XdAt M.K H m st.length q.1 q.2) ∧
    (mkF 1 nN (cb ea xn d) [.x ea xn p] st).post (fun w st' => ∀ v H' m', Fol m st.length H m' st'.length H' → Sim M.K H' m' st' → RW M.K H' m' st'.length v w → Q v H') (fun _ _ => False)
section
variable {P : Program} {w : World} {K : Frg} {mg : Str → Option Value} {base : Heap} {X : Cx} {fl n : Str} {k nN i : Nat} {cb : Addr → Str → Option Addr → En → Sto → SR} {ok : Str → Addr → Prop}
theorem pe_flags {M : Md} {a : Addr} {oe : Obj} {cls : Value} {d : Option Addr} {pn : List (Addr × Obj)} {q1 q2 pos : Pos} (e1 : X.prog = M.P) (e2 : X.w = M.w) (e3 : X.K = M.K) (e4 : X.mg = M.mg) (e5 : X.base = M.base) (F : FlFn M fl k nN cb ok) (hr : L2H.RoomH (k + 1) X.A) (hg : Gl X fl) (hz : Zc cls d oe) (hf : ∃ vs, oe.data = .fields vs)
    (hi : X.N[i]? = some n) (hv : Vis X.env.scope n) (hd : (n == ("__debug__" : Str)) = false) (hcd : (n == ("__classdict__" : Str)) = false) (hdb : (fl == ("__debug__" : Str)) = false)
    (he : starEach [.Name n q2] X.env = (false, eval (.Name n q2) X.env) :: starEach [] X.env := by rfl) (hpl : (backTo pos (starEach [] X.env)).any (·.1) = false := by rfl) :
    PE (X.suite a ((a, oe) :: pn)) (.Call (.Name fl q1) [.Name n q2] [] pos) (fun σ H Q => (σ.length = X.N.length → σ[i]? = some (some (.ref a))) ∧ flP M nN cb ok cls d a H Q) := by
  obtain ⟨P, w, K, mg, base⟩ := M
  obtain ⟨rfl, rfl, rfl, rfl, rfl⟩ : X.prog = P ∧ X.w = w ∧ X.K = K ∧ X.mg = mg ∧ X.base = base := ⟨e1, e2, e3, e4, e5⟩
  refine ⟨fun pins s σ H Q I h => ?_⟩
  obtain ⟨hs, m, st, xn, C, p, hcls, hcn, hok, S, hx, hp⟩ := h
  subst hcls
  obtain ⟨f, fd, a0, g1, g2, g3, run⟩ := F.at'
  refine wpAny_Call_Name_kw (ld_glob I hg g1 ?_ hdb)
  have hsl := hs I.len
  refine PySem.W.callWith_K (h₀ := X.base) I.ok.mod.kin g2 (thn ((pa_cons (pe_var (X := X.suite a ((a, oe) :: pn)) (pos := q2) (i := i) hi hv hd hcd) pa_nil he).run pos pins s σ H (fun vs H1 => vs = [.ref a] ∧ H1 = H) I ⟨.ref a, hsl, rfl, rfl⟩) fun us s1 hh => ?_) he hpl
  obtain ⟨vs, H1, I1, rv, rfl, rfl⟩ := hh
  refine ⟨I1.kIn, ?_⟩
  have hl : us.length = 1 := by rw [← rv.length]; rfl
  have bd := g3 s1 us I1.kIn (by rw [List.append_nil]; exact hl)
  rw [List.append_nil] at bd
  have P1 := I1.pin (a, oe) (List.mem_append_left _ List.mem_cons_self)
  have hpin : L2H.PinOk X.stack H1 s1 (a, oe) := ⟨P1.1, P1.2.1, fun hm => (List.mem_cons.mp (I1.stkSub a hm)).elim P1.2.2.1 P1.2.2.2.1, P1.2.2.2.2⟩
  refine wpAny_call (codeAny_mono (run a C xn d hcn hok (X.A.mark (some (.ref a))) X.stack s1 H1 ⟨us, []⟩ us m st oe p Q ⟨hr.dp, hr.un⟩ hpin hz hf I1.env0 bd rv S hx hp) fun r s2 hq => ?_)
  cases r with
  | error e => obtain ⟨_, _, _, _, _, _, _, _, _, _, _, _, z⟩ := hq; exact z.elim
  | ok fw =>
    cases fw with
    | ret u => exact I1.after hq
    | next => exact False.elim hq
    | brk => exact False.elim hq
    | cont => exact False.elim hq
end
end
section
variable [Wtp] [Tbl]
open LamX
/-! ## a lambda handed to the def that asks it -/
section
variable {K : Frg} {H H' : Hp} {m : Mp} {n : Nat}
theorem Fol.ext (h : ExtN H H') : Fol m n H m n H' :=
  ⟨fun a xs q => h a _ q (fun _ z => nomatch z), fun a o u q => h a _ q (fun _ z => nomatch z), fun a o nt q _ => h a o q nt, fun _ _ => rfl, fun i a b => absurd b (by omega), Nat.le_refl _, fun a ⟨o, e, nt⟩ => ⟨o, h a o e nt, nt⟩, fun _ _ => Iff.rfl⟩
theorem Sim.ext {st : Sto} (S : Sim K H m st) (h : ExtN H H') (T : LamX.Tabs Tbl.T H') : Sim K H' m st := by
  have f : Fol m st.length H m st.length H' := .ext h
  refine ⟨fun i o e => ?_, S.inj, fun a z => f.dom a (S.ff a z), S.fi, T⟩
  have q := S.ob i o e
  cases o with
  | lst xs => obtain ⟨vs, h1, h2⟩ := q; exact ⟨vs, h _ _ h1 nt_lst, h2.mv f.kp⟩
  | dct kvs => obtain ⟨vs, h1, h2⟩ := q; exact ⟨vs, h _ _ h1 nt_dK, RpK.kp f.kp _ _ h2⟩
  | dtt kvs => obtain ⟨vs, h1, h2⟩ := q; exact ⟨vs, h _ _ h1 nt_dT, RpT.kp f.kp _ _ h2⟩
  | lkd es => exact Rp.mv q f.kp
  | lkl xs => exact FzL.mv q f.kp
  | ins C es => exact InAt.mv q f.kp fun _ _ e => h _ _ e (fun _ z => nomatch z)
end
/-- what the def makes of what is told -/
def toldT (T : Option Str) (Q : VK) : VK := fun v H => match T with
  | none => Q v H
  | some z => 2 ≤ sizeLine ∧ ∀ (p : Addr) (u : HO), H p = none → TupO u [.str z, v] → Q (.ref p) (upd H p u)
def TTsaid (M : Md) (T : Option Str) (nN : Nat) (cb : Addr → Str → Option Addr → En → Sto → SR) (ok : Str → Addr → Prop) (CS : Addr) : (XK → Hp → VK → Prop) → Hp → VK → Prop := fun tl H Q =>
  tl (fun cls d H' => PySem.W.exmOne M.K cls (.ref CS) = some true ∧ ∀ a, H' a = none → flP M nN cb ok cls d a H' Q) H (toldT T Q)
section
variable {X : Cx} {M : Md} {x a e q CSn fl : Str} {sg : Scope} {g CS : Addr} {cdg : Value} {k nN : Nat} {cb : Addr → Str → Option Addr → En → Sto → SR} {ok : Str → Addr → Prop} {p1 p2 p3 p4 p5 p6 p7 p8 p9 p10 : Pos}
theorem said_gives (e1 : X.prog = M.P) (e2 : X.w = M.w) (e3 : X.K = M.K) (e4 : X.mg = M.mg) (e5 : X.base = M.base) (F : FlFn M fl k nN cb ok) (hr : L2H.RoomH (k + 2) X.A) (SC : FnScope [a, e] [a] sg) (hle : sg.names.lookup e = some .local) (hce : sg.names.lookup CSn = some .globalImplicit) (hfl : sg.names.lookup fl = some .globalImplicit) (hmc : M.mg CSn = some (.ref CS))
    (d1 : (CSn == ("__debug__" : Str)) = false) (d2 : (e == ("__debug__" : Str)) = false) (d3 : (e == ("__classdict__" : Str)) = false) (d4 : (fl == ("__debug__" : Str)) = false) :
    GivesTo X [a, e] x sg g cdg [.Try [.Return (some (.Call (.Name a p1) [] [] p2)) p3] [.ExceptHandler (some (.Name CSn p4)) (some e) [.Return (some (.Call (.Name fl p5) [.Name e p6] [] p7)) p8] p9] [] [] p10] a q (TTsaid M none nN cb ok CS) := by
  intro f c' s H Q tl act hc h
  refine ⟨_, pss_one (ps_try_as (X := (cxOf C8.CX0 X.prog X.w X.K X.mg X.base [a, e] x sg g cdg X.A X.stack s H C8.E0).nox) (c := .ref CS) (i := 1)
      (tb := fun W D σ H => ∃ Ech : XK, (∀ cls d σ' H', Ech cls d H' → W cls d σ' H') ∧ σ[0]? = some (some (.ref f)) ∧ H c' = some (CodeO c' q) ∧ tl Ech H D.rt)
      rfl rfl SC.nd rfl hle ⟨hce, d1, .inl (by rw [← e4] at hmc; exact hmc)⟩ L2.takes0 (fun W pn xe tk _ => ?_) (fun a' oe cls d pn hz hf => pss_one (ps_ret (pe_flags (i := 1) e1 e2 e3 e4 e5 F ⟨?_, ?_⟩ hfl hz hf rfl (.inl hle) d2 d3 d4)))), ?_⟩
  · refine ⟨fun pins s' σ H' D I h' => ?_⟩
    obtain ⟨Ech, hW, h1, h2, h3⟩ := h'
    exact (pss_one (ps_ret (pos := p3) (act W pn xe Ech p1 p2 tk hW))).run pins s' σ H' D I ⟨h1, h2, h3⟩
  · have := hr.dp; show X.A.depth + 1 + 3 * (k + 1) + 5 < _; omega
  · have := hr.un; show X.A.units + 3 + 16 * (k + 1) + 200 < _; omega
  · refine ⟨_, fun cls d σ' H' ⟨b1, b2⟩ => ⟨true, by rw [← e3] at b1; exact b1, fun _ a' ha => ⟨fun hl => ?_, b2 a' ha⟩, fun z => Bool.noConfusion z⟩, rfl, hc, h⟩
    rw [List.length_set] at hl
    exact List.getElem?_set_self (by rw [hl]; exact Nat.lt_succ_self 1)
end
end
section
variable [Wtp] [Tbl]
open LamX
/-- x(lambda: body), x told as above -/
def toldD (T : Option Str) (x : PyData) : PyData := match T with
  | none => x
  | some z => .tuple [.str z, x]
@[simp] theorem toldD_none (x : PyData) : toldD none x = x := rfl
@[simp] theorem toldD_some (z : Str) (x : PyData) : toldD (some z) x = .tuple [.str z, x] := rfl
def saidR (T : Option Str) (fl : Xc → Option PyData) (n : Nat) : Rs Wv → Rs Wv
  | .ok w st' => match frzL n st' w with
    | some x => .ok (.d (toldD T x)) (st'.take n)
    | none => .no
  | .ex e st' => match fl e with
    | some y => .ok (.d y) (st'.take n)
    | none => .no
  | .no => .no
def eSaid (T : Option Str) (fl : Xc → Option PyData) (c : En → Sto → Rs Wv) : En → Sto → Rs Wv := fun env st => saidR T fl st.length (c env st)
@[simp] theorem saidR_d (T : Option Str) (fl : Xc → Option PyData) (n : Nat) (x : PyData) (st : Sto) : saidR T fl n (.ok (.d x) st) = .ok (.d (toldD T x)) (st.take n) := rfl
theorem saidR_ex (T : Option Str) (fl : Xc → Option PyData) (n : Nat) {e : Xc} {y : PyData} (h : fl e = some y) (st : Sto) : saidR T fl n (.ex e st) = .ok (.d y) (st.take n) := by unfold saidR; simp [h]
structure SaidT (M : Md) (x : Str) (kf nN : Nat) (T : Option Str) (fl : Xc → Option PyData) (cb : Addr → Str → Option Addr → En → Sto → SR) (ok : Str → Addr → Prop) : Prop where
  at' : ∃ (g : Addr) (od an : Option Addr) (sl : Array (Option Value)) (oc kV dc pm cd ct : Value) (pg : Arguments) (bg : List Stmt) (sg : Scope) (a e : Str) (CS : Addr),
    M.mg x = some (.ref g) ∧ M.K.lookup g = some ⟨oc, od, .func (PySem.W.fnOf x x pg bg sg .none kV dc pm an cd ct), sl⟩ ∧ PySem.W.codeIn M.K cd x = true ∧ PySem.W.keepIn M.K (.ref g) = true ∧ Binds M.K (PySem.W.fnOf x x pg bg sg .none kV dc pm an cd ct) [a] [] ∧
    FnScope [a, e] [a] sg ∧ ((a == ("__debug__" : Str)) = false ∧ (a == ("__classdict__" : Str)) = false) ∧ (∀ (X : Cx) (q : Str), X.prog = M.P → X.w = M.w → X.K = M.K → X.mg = M.mg → X.base = M.base → L2H.RoomH (kf + 2) X.A → GivesTo X [a, e] x sg g cd bg a q (TTsaid M T nN cb ok CS)) ∧
    ∀ (xn : Str) (C : Addr), M.mg xn = some (.ref C) → ok xn C → PySem.W.exmOne M.K (.ref C) (.ref CS) = some true
  fl' : ∀ (e : Xc) (y : PyData), fl e = some y → ∃ C, M.mg e.name = some (.ref C) ∧ ok e.name C ∧ ∀ (ea : Addr) (p : Option (Addr × List (Str × PyData))) (st : Sto), (e.fs = [] ∧ p = none ∨ ∃ dd, p = some (dd, e.fs)) → mkF 1 nN (cb ea e.name (p.map (·.1))) [.x ea e.name p] st = .ok (.d y) st
def Tb.lam (B : Tb) (us : List Nat) (gs : List Str) : Tb := ⟨B.N, us, [], [], gs, [], false, false, none⟩
def lamB (B : Tb) (us : List Nat) (gs : List Str) (sc : Scope) : Bool :=
  decide (sc.kind = .function) && (!sc.isCoroutine && (!sc.isGenerator && ((sc.names.all fun y => !decide (y.2 = .local) && (!decide (y.2 = .cell) && (!decide (y.2 = .free) || decide (y.1 ∈ B.cs)))) &&
    ((us.all fun i => match B.N[i]? with | some x => kdV (sc.names.lookup x) | none => true) && (gs.all fun x => kdG (sc.names.lookup x))))))
section
variable {M : Md} {X : Cx} {B : Tb} {k kf kb nN : Nat} {x q : Str} {T : Option Str} {fl : Xc → Option PyData} {cb : Addr → Str → Option Addr → En → Sto → SR} {ok : Str → Addr → Prop} {scope : Scope} {params : Arguments} {body : Expr} {cl : En → Sto → Rs Wv} {lpos p pos : Pos}
theorem lam_cxt (c : Cxt M X B k) (us : List Nat) (gs : List Str) (h : lamB B us gs scope = true) {A : Around} {outer : List Env} {s : Shared} {H : Hp} {E : XK} {f c' : Addr} (hr : Room kb (A.deeper (lamEnv X scope s.heap.objs.size f c'))) : Cxt M (lamCx X A outer s H E scope f c') (B.lam us gs) kb := by
  unfold lamB at h
  simp only [Bool.and_eq_true, List.all_eq_true] at h
  obtain ⟨h1, h2, h3, h4, h5, h6⟩ := h
  refine ⟨c.hP, c.hw, c.hK, c.mg, c.hb, c.hN, c.nd, rfl, fun z => (Bool.false_ne_true z).elim, hr, fun z => (Bool.false_ne_true z).elim, fun i hi x hx => ?_, fun i hi => absurd hi List.not_mem_nil, fun i hi => absurd hi List.not_mem_nil, fun j x hx => ?_, fun x hx => absurd hx List.not_mem_nil, fun z => (Bool.false_ne_true z).elim, (fun q z => nomatch (show (none : Option Str) = some q from z)), fun z => (Bool.false_ne_true z).elim⟩
  · have q := h5 i hi
    rw [show B.N[i]? = some x from hx] at q
    exact kdV_vis q
  · exact kdG_gl (h6 x (List.mem_of_getElem? hx))
theorem lam_s (c : Cxt M X B k) {us : List Nat} {gs : List Str} (h : lamB B us gs scope = true) : LamS X.env.scope scope := by
  unfold lamB at h
  simp only [Bool.and_eq_true, List.all_eq_true, Bool.not_eq_true', decide_eq_true_eq, decide_eq_false_iff_not, Bool.or_eq_true] at h
  obtain ⟨h1, h2, h3, h4, h5, h6⟩ := h
  refine ⟨h1, h2, h3, fun y hy => ⟨(h4 y hy).1, (h4 y hy).2.1⟩, fun y hy e => ?_⟩
  rcases (h4 y hy).2.2 with z | z
  · exact absurd e z
  · exact c.cs _ z
theorem de_said (c : Cxt M X B k) (S : SaidT M x kf nN T fl cb ok) (j : Nat) (hg : B.gs[j]? = some x) (hlq : B.lq = some q) (us : List Nat) (gs : List Str) (hL : lamB B us gs scope = true) (hk : kf + 2 ≤ k) (hk2 : kb + 2 ≤ k) (hb : ∀ X' : Cx, Cxt M X' (B.lam us gs) kb → DE X' body cl)
    (hdef : defaultsOf params X.env = ([], []) := by rfl) (hbind : ∀ (q : Str) (cl : List (Str × Addr)) (pm cv ctv : Value), bindArgs (PySem.W.kla_fn "<lambda>" q params body scope cl pm cv ctv) ⟨[], []⟩ = pure [] := by intros; rfl) (hdb : (x == ("__debug__" : Str)) = false := by decide) :
    DE X (.Call (.Name x p) [.Lambda params body scope lpos] [] pos) (eSaid T fl cl) := by
  obtain ⟨P, w, K, mg, base⟩ := M
  obtain ⟨rfl, rfl, rfl, rfl, rfl⟩ : X.prog = P ∧ X.w = w ∧ X.K = K ∧ X.mg = mg ∧ X.base = base := ⟨c.hP, c.hw, c.hK, c.mg, c.hb⟩
  obtain ⟨g, od, an, sl, oc, kV, dc, pm, cd, ct, pg, bg, sg, a, e, CS, s1, s2, s3, s4, s5, s6, s7, s8, s9⟩ := S.at'
  obtain ⟨hq, cc, PP, l1, l2, l3, l4⟩ := c.lam q hlq
  have va : Vis sg a := by
    rcases s6.par a List.mem_cons_self with z | z
    · exact .inl z
    · exact .inr (.inl z)
  refine ⟨fun W tk => PE.imp (pe_lamcall (T := Tbl.T) (TT := TTsaid ⟨X.prog, X.w, X.K, X.mg, X.base⟩ T nN cb ok CS) (t := fun E => tE X (fun cls d _ H => E cls d H) cl) (k := kb) (c.gl j x hg) s1 s4 s2 s3 s5 s6 rfl va (s8 X _ rfl rfl rfl rfl rfl (L2H.roomH_of (c.room.mono hk))) l4 l1 (by rw [hq]; exact l2) (by rw [hq]; exact l3) (c.room.mono hk2) (lam_s c hL) hdef hbind
    (fun A outer s H E f c' hr => (hb _ (lam_cxt c us gs hL hr)).pe _ (takes_of rfl rfl rfl rfl)) hdb s7.1 s7.2) fun σ H Q ⟨m, env, st, S1, R, hp⟩ => ?_⟩
  refine ⟨S1.tb, fun H1 eN T1 => ?_⟩
  have f0 : Fol m st.length H m st.length H1 := .ext eN
  refine ⟨m, env, st, S1.ext eN T1, R.mv f0, ?_⟩
  unfold eSaid at hp
  cases ec : cl env st with
  | no => rw [ec] at hp; exact hp.elim
  | ok w st' =>
    rw [ec] at hp
    unfold saidR at hp
    simp only at hp
    split at hp
    · rename_i y ey
      intro v H' m' f S' r
      have tl : (st'.take st.length).length = st.length := by rw [List.length_take]; have := f.le; omega
      have ry := rl_frz S' f.le r ey
      have f1 : Fol m st.length H m' (st'.take st.length).length H' := by rw [tl]; exact f0.trans f.back
      cases T with
      | none => exact hp v H' m' f1 (S'.take f.le) (by rw [tl]; exact ry)
      | some z =>
        refine ⟨Nat.le_trans (by omega) line_lim, fun p u np hu => ?_⟩
        have g := grow_upd (o := u) np
        refine hp _ _ m' (f1.trans (.same g)) ((S'.take f.le).grow g) ?_
        rw [tl]
        have f2 : Fol m' st.length H' m' st.length (upd H' p u) := .same g
        exact .tup (hu.tp upd_same) (.cons (.str z) (.cons (ry.mv f2.kp) .nil))
    · exact hp.elim
  | ex e' st' =>
    rw [ec] at hp
    unfold saidR at hp
    simp only at hp
    split at hp
    · rename_i y ey
      obtain ⟨C, hC, hok, hrun⟩ := S.fl' e' y ey
      intro cls d H' m' f S' r
      have tl : (st'.take st.length).length = st.length := by rw [List.length_take]; have := f.le; omega
      obtain ⟨⟨C2, hC2, rfl⟩, hfld⟩ := r
      have hC2' : X.mg e'.name = some (.ref C2) := hC2
      have hC' : X.mg e'.name = some (.ref C) := hC
      rw [hC'] at hC2'
      obtain rfl : C = C2 := by cases hC2'; rfl
      refine ⟨s9 _ _ hC hok, fun ea na => ?_⟩
      have key : ∀ p : Option (Addr × List (Str × PyData)), p.map (·.1) = d → (e'.fs = [] ∧ p = none ∨ ∃ dd, p = some (dd, e'.fs)) → (∀ q, p = some q → XdAt X.K H' m' (st'.take st.length).length q.1 q.2) → flP ⟨X.prog, X.w, X.K, X.mg, X.base⟩ nN cb ok (.ref C) d ea H' Q := fun p h1 h2 h3 => by
        refine ⟨m', st'.take st.length, e'.name, C, p, rfl, hC, hok, S'.take f.le, h3, ?_⟩
        rw [← h1, hrun ea p _ h2]
        intro v H2 m2 f2 S2 r2
        refine hp v H2 m2 ?_ S2 r2
        rw [tl] at f2 ⊢
        exact (f0.trans f.back).trans f2
      rcases hfld with ⟨z1, z2⟩ | ⟨dd, z1, fs, y1, y2, y3, y4⟩
      · exact key none z2.symm (.inl ⟨z1, rfl⟩) fun q z => nomatch z
      · refine key (some (dd, e'.fs)) z1.symm (.inr ⟨dd, rfl⟩) fun q z => ?_
        cases z
        rw [tl]
        exact ⟨fs, y1, y2, y3.mv (.le f.le), off_le f.le y4⟩
    · exact hp.elim
end
end
section
variable [Wtp] [Tbl]
open LamX
/-! ## facts of the classes that are raised -/
structure XcA (M : Md) (CSn : Str) (ys : List Str) (fl : List (Str × List Str)) (xn : Str) (C : Addr) : Prop where
  mg : M.mg xn = some (.ref C)
  ok : fl.lookup xn = none → XcOk M xn C
  xf : XfC M.K C
  nof : ∀ f ∈ (fl.lookup xn).getD [], PySem.W.findIn M.K (.ref C) f = some none
  exc : ExcC M.K C
  own : ∀ y ∈ ys, ∃ C2, M.mg y = some (.ref C2) ∧ PySem.W.kitOne M.K (.ref C) (.ref C2) = some (decide (xn = y))
  ve : PySem.W.kitOne M.K (.ref C) (.type "ValueError") = some true
  no4 : PySem.W.kitAny M.K (.ref C) (["LookupError", "TypeError", "ArithmeticError", "RuntimeError"].map Value.type) = some false
  sto : ∀ CS, M.mg CSn = some (.ref CS) → PySem.W.exmOne M.K (.ref C) (.ref CS) = some true
def ownB (K : Frg) (C : Addr) (xn y : Str) : Bool := match PySem.W.nsIn K mainGlobals y with
  | some (some (.ref C2)) => PySem.W.kitOne K (.ref C) (.ref C2) == some (decide (xn = y))
  | _ => false
def xcB (K : Frg) (CSn : Str) (ys : List Str) (fl : List (Str × List Str)) (xn : Str) (C : Addr) : Bool :=
  (((fl.lookup xn).getD []).all fun f => decide (PySem.W.findIn K (.ref C) f = some none)) && (
  PySem.W.keepIn K (.ref C) && (PySem.W.subIn K (.ref C) (.type "BaseException") == some true && (PySem.W.typeIn K (.ref C) == some (.type "type") &&
  (decide (PySem.W.findIn K (.ref C) "__getattribute__" = some (some (.builtin "BaseException.__getattribute__"))) && (decide (PySem.W.findIn K (.ref C) "__getattr__" = some none) && (PySem.W.hasDictIn K C &&
  (decide (PySem.W.findIn K (.ref C) "__class__" = some (some (.builtin "object.__class__"))) && (decide (PySem.W.specialIn K (.builtin "object.__class__") "__get__" = some (some (.builtin "getset_descriptor.__get__"))) && (PySem.W.takesIn K (.builtin "object.__class__") == some true &&
  (PySem.W.mroIn K C (.type "object") == some true && (ys.all (ownB K C xn) && (PySem.W.kitOne K (.ref C) (.type "ValueError") == some true && (PySem.W.kitAny K (.ref C) (["LookupError", "TypeError", "ArithmeticError", "RuntimeError"].map Value.type) == some false &&
  (match PySem.W.nsIn K mainGlobals CSn with | some (some (.ref CS)) => PySem.W.exmOne K (.ref C) (.ref CS) == some true | _ => false))))))))))))))
theorem xcA_of {M : Md} {CSn : Str} {ys : List Str} {fl : List (Str × List Str)} {xn : Str} {C : Addr} {h : Heap} (X : M.K.In h) (G : h.Ns mainGlobals M.mg) (a : PySem.W.nsIn M.K mainGlobals xn = some (some (.ref C))) (e : fl.lookup xn = none → PySem.W.excIn M.K C bmV "ValueError.__new__" = true) (b : xcB M.K CSn ys fl xn C = true) : XcA M CSn ys fl xn C := by
  unfold xcB at b
  simp only [Bool.and_eq_true, decide_eq_true_eq, beq_iff_eq] at b
  obtain ⟨b0, b1, b2, b3, b4, b5, b6, b7, b8, b9, b10, b11, b12, b13, b14⟩ := b
  refine ⟨PySem.W.mg_of X G a, fun z => ⟨PySem.W.mg_of X G a, e z, b1, b2, b3⟩, ⟨b4, b5, b2, b6⟩, fun f hf => of_decide_eq_true (List.all_eq_true.mp b0 f hf), ⟨b4, b5, b2, b6, b7, b8, b9, b10⟩, fun y hy => ?_, b12, b13, fun CS hCS => ?_⟩
  · have q := List.all_eq_true.mp b11 y hy
    unfold ownB at q
    split at q
    · rename_i C2 hn
      exact ⟨C2, PySem.W.mg_of X G hn, beq_iff_eq.mp q⟩
    · cases q
  · split at b14
    · rename_i CS2 hn
      have z := PySem.W.mg_of X G hn
      rw [hCS] at z
      cases z
      exact beq_iff_eq.mp b14
    · cases b14
section
variable {M : Md} {X : Cx} {B : Tb} {k : Nat} {pos p p2 p3 p4 p5 apos : Pos} {ea C : Addr} {xn : Str} {d : Option Addr}
theorem deh_isO (c : Cxh M X B k ea xn C d) (T : ExcC M.K C) (i j jj : Nat) {x y : Str} {b : Bool} (h : B.N[i]? = some x) (hu : i ∈ B.us) (hi : B.gs[jj]? = some ("isinstance" : Str)) (hm : M.mg "isinstance" = none) (hg : B.gs[j]? = some y) (o : ∃ C2, M.mg y = some (.ref C2) ∧ PySem.W.kitOne M.K (.ref C) (.ref C2) = some b)
    (hd : (x == ("__debug__" : Str)) = false := by decide) (hc : (x == ("__classdict__" : Str)) = false := by decide) (hd2 : (y == ("__debug__" : Str)) = false := by decide)
    (he : starEach [.Name x p, .Name y p2] X.env = (false, eval (.Name x p) X.env) :: starEach [.Name y p2] X.env := by rfl) (hpl : (backTo pos (starEach [.Name y p2] X.env)).any (·.1) = false := by rfl) :
    DE X (.Call (.Name "isinstance" p4) [.Name x p, .Name y p2] [] pos) (eIsx ea xn d b i) := by
  obtain ⟨C2, h1, h2⟩ := o
  exact deh_isg (p5 := p) c T i j jj h hu hi hm hg h1 h2 hd hc hd2 he hpl
def eNo : En → Sto → Rs Wv := fun _ _ => .no
theorem de_no {e : Expr} : DE X e eNo := ⟨fun W tk => ⟨fun pins s σ H Q I ⟨m, env, st, S, R, hp⟩ => hp.elim⟩⟩
@[simp] theorem x_isx (ea : Addr) (xn : Str) (p : Option (Addr × List (Str × PyData))) (b : Bool) (i : Nat) (env : En) (st : Sto) (h : env[i]? = some (some (.x ea xn p))) : eIsx ea xn (p.map (·.1)) b i env st = .ok (.d (.bool b)) st := by
  unfold eIsx
  rw [h]
  simp [xHas]
end
/-! ## the def that asks, from the top -/
theorem saidT_of {M : Md} {x a e CSn : Str} {sf : Stmt} {kf nN : Nat} {T : Option Str} {fl : Xc → Option PyData} {cb : Addr → Str → Option Addr → En → Sto → SR} {ys : List Str} {fL : List (Str × List Str)} {CS : Addr} (TF : TopFn M x sf [a]) (SC : FnScope [a, e] [a] (defScope sf)) (hv : (a == ("__debug__" : Str)) = false ∧ (a == ("__classdict__" : Str)) = false) (hmc : M.mg CSn = some (.ref CS))
    (hG : ∀ (X : Cx) (g : Addr) (cd : Value) (q : Str), X.prog = M.P → X.w = M.w → X.K = M.K → X.mg = M.mg → X.base = M.base → L2H.RoomH (kf + 2) X.A → GivesTo X [a, e] x (defScope sf) g cd (defBody sf) a q (TTsaid M T nN cb (XcA M CSn ys fL) CS))
    (hfl : ∀ (e : Xc) (y : PyData), fl e = some y → ∃ C, M.mg e.name = some (.ref C) ∧ XcA M CSn ys fL e.name C ∧ ∀ (ea : Addr) (p : Option (Addr × List (Str × PyData))) (st : Sto), (e.fs = [] ∧ p = none ∨ ∃ dd, p = some (dd, e.fs)) → mkF 1 nN (cb ea e.name (p.map (·.1))) [.x ea e.name p] st = .ok (.d y) st) :
    SaidT M x kf nN T fl cb (XcA M CSn ys fL) := by
  obtain ⟨f, od, an, sl, oc, kV, dc, pm, cd, ct, h1, h2, h3, h4, h5⟩ := TF.at'
  exact ⟨⟨f, od, an, sl, oc, kV, dc, pm, cd, ct, _, _, _, a, e, CS, h1, h2, h3, h4, h5, SC, hv, fun X q => hG X f cd q, fun xn C _ hx => hx.sto CS hmc⟩, hfl⟩
/-- the table of one def, from the written part -/
theorem lamT_of {M : Md} {x q : Str} {c P : Addr} {h : Heap} (X : M.K.In h) (G : h.Ns mainGlobals M.mg) (ht : PySem.W.tabIn M.K x = some (c, P)) (hq : (x ++ ".<locals>.") ++ "<lambda>" = q) (hm : (P, q) ∈ Tbl.T) (hu : ∀ p ∈ Tbl.T, p.1 = P → p.2 = q) (TB : TabB M.base M.mg c P) : LamT M x q := by
  refine ⟨hq, c, P, fun f oc od fd sl h1 h2 => ?_, hm, hu, TB⟩
  exact PySem.W.law_code X G ht h1 (X _ _ h2) rfl
theorem ds_raiseO {M : Md} {X : Cx} {B : Tb} {k : Nat} {pos p p2 p3 : Pos} {CSn : Str} {ys : List Str} {fL : List (Str × List Str)} (c : Cxt M X B k) (j : Nat) {x m : Str} {jj : Nat} (hg : B.gs[j]? = some x) (E : ∃ C, XcA M CSn ys fL x C) (hn : fL.lookup x = none := by rfl) (hdb : (x == ("__debug__" : Str)) = false := by decide) :
    DS X (.Raise (some (.Call (.Name x p) [.Constant (.str m) jj p2] [] p3)) none pos) (sRaise x) := by
  obtain ⟨C, hC⟩ := E
  exact ds_raise c j hg (hC.ok hn) hdb
/-! ## an attribute of the exception: a field of its class, or no field -/
def eXfO (fl : List (Str × List Str)) (ea : Addr) (xn : Str) (d : Option Addr) (f : Str) (i : Nat) : En → Sto → Rs Wv := if f ∈ (fl.lookup xn).getD [] then eXf ea xn d f i else eNo
theorem deh_xfO {M : Md} {X : Cx} {B : Tb} {k : Nat} {pos p : Pos} {ea C : Addr} {xn : Str} {d : Option Addr} {CSn : Str} {ys : List Str} {fL : List (Str × List Str)} (c : Cxh M X B k ea xn C d) (E : XcA M CSn ys fL xn C) (i : Nat) {x f : Str} (h : B.N[i]? = some x) (hu : i ∈ B.us) (hd : (x == ("__debug__" : Str)) = false := by decide) (hc : (x == ("__classdict__" : Str)) = false := by decide)
    (hb : attributeBase (.Name x p) f X.env (eval (.Name x p) X.env) = eval (.Name x p) X.env := by rfl) : DE X (.Attribute (.Name x p) f pos) (eXfO fL ea xn d f i) := by
  unfold eXfO
  split
  · rename_i hf
    exact deh_xf c E.xf i (E.nof f hf) h hu hd hc hb
  · exact de_no
@[simp] theorem x_xf (ea dd : Addr) (xn f : Str) (es : List (Str × PyData)) (y : PyData) (i : Nat) (env : En) (st : Sto) (h : env[i]? = some (some (.x ea xn (some (dd, es))))) (hy : es.lookup f = some y) : eXf ea xn (some dd) f i env st = .ok (.d y) st := by
  unfold eXf
  rw [h]
  simp [hy]
/-! ## what is said of the classes: the word, the fields -/
abbrev FlTab := List (Str × Str × List Str)
def flL (l : FlTab) : Xc → Option PyData := fun e => match l.lookup e.name with
  | some (w, fns) => if e.fs.map (·.1) = fns.reverse then some (.tuple (.str w :: (e.fs.reverse.map (·.2)))) else none
  | none => none
/-- what the written part must show of one class -/
def FvOk (nN : Nat) (cb : Addr → Str → Option Addr → En → Sto → SR) (x w : Str) (fns : List Str) : Prop :=
  ∀ (ea : Addr) (p : Option (Addr × List (Str × PyData))) (fs : List (Str × PyData)) (st : Sto), fs.map (·.1) = fns.reverse → (fs = [] ∧ p = none ∨ ∃ dd, p = some (dd, fs)) → mkF 1 nN (cb ea x (p.map (·.1))) [.x ea x p] st = .ok (.d (.tuple (.str w :: (fs.reverse.map (·.2))))) st
def FlOk (M : Md) (CSn : Str) (ys : List Str) (fL : List (Str × List Str)) (nN : Nat) (cb : Addr → Str → Option Addr → En → Sto → SR) (l : FlTab) : Prop :=
  ∀ x w fns, l.lookup x = some (w, fns) → (∃ C, XcA M CSn ys fL x C) ∧ FvOk nN cb x w fns
section
variable {M : Md} {CSn : Str} {ys : List Str} {fL : List (Str × List Str)} {nN : Nat} {cb : Addr → Str → Option Addr → En → Sto → SR} {l : FlTab}
theorem flL_nil : FlOk M CSn ys fL nN cb [] := fun x w fns h => nomatch h
theorem flL_cons {x w : Str} {fns : List Str} (h1 : ∃ C, XcA M CSn ys fL x C) (h2 : FvOk nN cb x w fns) (h : FlOk M CSn ys fL nN cb l) : FlOk M CSn ys fL nN cb ((x, w, fns) :: l) := fun y v vs e => by
  rw [List.lookup_cons] at e
  split at e
  · rename_i q
    cases e
    cases eq_of_beq q
    exact ⟨h1, h2⟩
  · exact h y v vs e
theorem fv_0 {x w : Str} (h2 : ∀ (ea : Addr) (p : Option (Addr × List (Str × PyData))) (st : Sto), mkF 1 nN (cb ea x (p.map (·.1))) [.x ea x p] st = .ok (.d (.tuple [.str w])) st) : FvOk nN cb x w [] := fun ea p fs st e _ => by
  cases fs with
  | nil => exact h2 ea p st
  | cons => cases e
/-- the one, two, four fields -/
theorem fv_1 {x w f1 : Str} (h2 : ∀ (ea dd : Addr) (y1 : PyData) (st : Sto), mkF 1 nN (cb ea x (some dd)) [.x ea x (some (dd, [(f1, y1)]))] st = .ok (.d (.tuple [.str w, y1])) st) : FvOk nN cb x w [f1] := fun ea p fs st e hp => by
  rcases fs with _ | ⟨⟨a, y1⟩, _ | ⟨_, _⟩⟩ <;> simp at e
  subst e
  rcases hp with ⟨z, _⟩ | ⟨dd, rfl⟩
  · cases z
  · exact h2 ea dd y1 st
theorem flL_ok (h : FlOk M CSn ys fL nN cb l) : ∀ (e : Xc) (y : PyData), flL l e = some y → ∃ C, M.mg e.name = some (.ref C) ∧ XcA M CSn ys fL e.name C ∧ ∀ (ea : Addr) (p : Option (Addr × List (Str × PyData))) (st : Sto), (e.fs = [] ∧ p = none ∨ ∃ dd, p = some (dd, e.fs)) → mkF 1 nN (cb ea e.name (p.map (·.1))) [.x ea e.name p] st = .ok (.d y) st := fun e y hy => by
  unfold flL at hy
  split at hy
  · rename_i w fns q
    split at hy
    · rename_i hf
      cases hy
      obtain ⟨⟨C, hC⟩, h2⟩ := h _ _ _ q
      exact ⟨C, hC.mg, hC, fun ea p st hp => h2 ea p e.fs st hf hp⟩
    · cases hy
  · cases hy
end
theorem sh_isx (ea : Addr) (xn : Str) (p : Option (Addr × List (Str × PyData))) (b : Bool) (env : En) (st : Sto) : eIsx ea xn (p.map (·.1)) b 0 (some (.x ea xn p) :: env) st = .ok (.d (.bool b)) st := x_isx _ _ _ _ _ _ _ rfl
end
section
variable [Wtp]
/-! ## the law's own call, with tables of code objects -/
theorem law_runT {TT : Tbl} {cs : List (Addr × Addr)} (hTT : ∀ p ∈ TT.T, ∃ c, (c, p.1) ∈ cs) {g : Bool} {P : Program} {w : World} {K : Frg} {mg mb : Str → Option Value} {k : Nat} {fa a : Addr} {fd : FuncData} {x : Str} {mf : List Wv → Sto → Rs Wv} {st9 : Sto} {s : Shared} {us : List Value} {ns : List Int}
    (inK : K.In s.heap) (glob : s.heap.Ns mainGlobals mg) (bns : s.heap.Ns builtinsNs mb) (bok : ∀ x : Str, x ≠ "__name__" → mb x = bootBuiltins x) (nolim : s.heap.NoLimit) (sm : SysM s.heap) (hgen : s.gens = #[])
    (tab0 : ∀ p ∈ cs, s.heap.get? p.2 = some (PySem.W.tabObj #[])) (tabK : ∀ p ∈ cs, K.lookup p.2 = none) (tabC : ∀ p ∈ cs, PySem.W.CodeHd s.heap p.1 p.2)
    (bmod : ∃ (bm : Addr) (ob : Obj), mg "__builtins__" = some (.ref bm) ∧ bm ≠ builtinsNs ∧ s.heap.get? bm = some ob ∧ ob.cls = .type "module" ∧ ob.dict = some builtinsNs ∧ ob.data = .plain)
    (hobj : s.heap.get? a = some { cls := .type "list", data := .seq us.toArray }) (hint : IntsAre us ns) (hlen : ns.length ≤ sizeLine) (room : Room k callerA)
    (F : ∀ base : Heap, K.In base → base.Ns mainGlobals mg → SysM base → (∀ p ∈ cs, LamX.TabB base mg p.1 p.2) → @Fnk _ TT ⟨P, w, K, mg, base⟩ g k fa fd [x] mf) (bind : ∀ (s : Shared) (u : Value), BindsTo s fd ⟨[u], []⟩ [(x, u)])
    (law : mf [.d (.list (ns.map .int))] [] = .ok (.d (.bool true)) st9) :
    codeAny (model P w) callerA (.call (.ref fa) ⟨[.ref a], []⟩) (fun r s' => r = .ok (.ret (.bool true)) ∧ OldK s.heap s'.heap ∧ s'.os = s.os ∧ AllBare s'.gens) s := by
  have rel := vals_ints hint
  have ulen := hint.length
  have nla : ∀ p ∈ cs, p.2 ≠ a := fun p hp z => by
    have q := tab0 p hp
    rw [z, hobj] at q
    exact absurd (congrArg Obj.data (Option.some.inj q)) fun z => nomatch z
  -- what may be tracked: the script, the tables
  have go : ∀ H : Hp, (∀ b u, H b = some u → (b = a ∧ ∃ o, u = .frz o (.lst (ns.map V.int)) ∧ s.heap.get? b = some o) ∨ ((∃ p ∈ cs, p.2 = b) ∧ u = .tbl #[])) → (∀ p ∈ cs, H p.2 = some (.tbl #[])) → LsX K H a (ns.map V.int) → HOk P w H s.heap → (H a ≠ none → K.lookup a = none) →
      codeAny (model P w) callerA (.call (.ref fa) ⟨[.ref a], []⟩) (fun r s' => r = .ok (.ret (.bool true)) ∧ OldK s.heap s'.heap ∧ s'.os = s.os ∧ AllBare s'.gens) s := by
    intro H only isT ls ok away
    have base0 : ∀ {b : Addr} {o : Obj}, s.heap.get? b = some o → H b = none → (hidT s.heap H).get? b = some o := fun e n => hidT_get e n
    have free : ∀ {b : Addr} {o : Obj}, s.heap.get? b = some o → (∀ ys n, o.data ≠ .seq ys n) → o.data ≠ .fields #[] → H b = none := fun {b o} e d1 d2 => by
      cases q : H b with
      | none => rfl
      | some u =>
        rcases only b u q with ⟨rfl, _⟩ | ⟨⟨p, hp, rfl⟩, _⟩
        · rw [hobj] at e
          cases e
          exact absurd rfl (d1 _ _)
        · rw [tab0 p hp] at e
          cases e
          exact absurd rfl d2
    have ns' : ∀ {b : Addr} {m : Str → Option Value}, s.heap.Ns b m → (hidT s.heap H).Ns b m := fun {b m} h => by
      obtain ⟨o, es, ep, e, d, r⟩ := h
      exact ⟨o, es, ep, base0 e (free e (fun ys n z => by rw [d] at z; cases z) fun z => by rw [d] at z; cases z), d, r⟩
    have inB : K.In (hidT s.heap H) := fun b o e => base0 (inK b o e) (by
      cases q : H b with
      | none => rfl
      | some u =>
        rcases only b u q with ⟨rfl, _⟩ | ⟨⟨p, hp, rfl⟩, _⟩
        · rw [away (by rw [q]; exact fun z => nomatch z)] at e
          cases e
        · rw [tabK p hp] at e
          cases e)
    have TB : ∀ p ∈ cs, LamX.TabB (hidT s.heap H) mg p.1 p.2 := fun p hp => by
      have tp := tab0 p hp
      have gP : mainGlobals ≠ p.2 := fun z => by
        obtain ⟨o, es, ep, e, d, _⟩ := glob
        rw [z, tp] at e
        cases e
        cases d
      refine ⟨?_, ?_, gP⟩
      · obtain ⟨o, fs, f1, f2, f3, f4, f5, f6, f7, e1, r1, r2, r3, rest⟩ := tabC p hp
        refine ⟨o, fs, f1, f2, f3, f4, f5, f6, f7, base0 e1 (free e1 (fun ys n z => ?_) fun z => ?_), r1, r2, r3, rest⟩
        · rw [r2] at z; cases z
        · rw [r2] at z
          cases z
          simp at r3
      · obtain ⟨bm, ob, b1, b2, b3, b4, b5, b6⟩ := bmod
        refine ⟨bm, ob, b1, b2, fun z => ?_, fun z => ?_, base0 b3 (free b3 (fun ys n z => ?_) fun z => ?_), b4, b5, b6⟩
        · obtain ⟨o, es, ep, e, d, _⟩ := glob
          rw [z, e] at b3
          cases b3
          rw [b6] at d
          cases d
        · rw [z, tp] at b3
          cases b3
          cases b6
        · rw [b6] at z; cases z
        · rw [b6] at z; cases z
    obtain ⟨mc, lim1, lim2⟩ := nolim
    have hmod : Mod K mg (hidT s.heap H) := ⟨inB, ns' glob, ⟨mb, ns' bns, bok⟩, ⟨mc, ns' lim1, lim2⟩⟩
    have env : Env0 P w K mg (hidT s.heap H) callerA [] s H := ⟨rfl, hmod, fun b o e => of_hidT e, Nat.le_of_eq (hidT_size _ _), trivial, fun b hb => absurd hb List.not_mem_nil, ok, .of_eq hgen⟩
    have S : @Sim _ TT K H ⟨fun _ => a, fun _ => False⟩ [] := ⟨fun i o e => by simp at e, fun i j hi => absurd hi (Nat.not_lt_zero _), fun b z => z.elim, fun i hi => absurd hi (Nat.not_lt_zero _), fun p hp => by
      obtain ⟨c, hc⟩ := hTT p hp
      exact LamX.TabS.nil (isT (c, p.1) hc)⟩
    have items : ∀ l : List Int, RpA K H (Off ⟨fun _ => a, fun _ => False⟩ 0) (l.map V.int) (l.map PyData.int) := fun l => by
      induction l with
      | nil => exact .nil
      | cons i l ih => exact .cons (.int i) ih
    have off : Off ⟨fun _ => a, fun _ => False⟩ 0 a := ⟨fun i hi => absurd hi (Nat.not_lt_zero _), fun z => z⟩
    have arg : RWs K H ⟨fun _ => a, fun _ => False⟩ 0 [.ref a] [.d (.list (ns.map .int))] := .cons (.lst (by
      rcases ls with ⟨h, _⟩ | h | h
      · exact .inl ⟨h, off⟩
      · exact .inr (.inl h)
      · exact .inr (.inr h)) (items ns)) .nil
    refine codeAny_mono ((F _ inB (ns' glob) (let ⟨o, es, ep, e, d⟩ := sm; ⟨o, es, ep, base0 e (free e (fun ys n z => by rw [d] at z; cases z) fun z => by rw [d] at z; cases z), d⟩) TB).run callerA [] s H ⟨[.ref a], []⟩ [.ref a] [.ref a] _ _ [] (fun v _ => v = .bl true) (fun _ _ _ => False) room (fun _ => rfl) env (bind s (.ref a)) (.cons rfl .nil) S arg (by
      rw [law]
      intro v H' m' f S' r
      cases r
      rfl)) fun r s' hr => ?_
    cases r with
    | error e =>
      obtain ⟨_, _, _, _, _, _, _, _, _, _, _, _, z⟩ := hr
      exact z.elim
    | ok fl =>
      cases fl with
      | next => exact hr.elim
      | brk => exact hr.elim
      | cont => exact hr.elim
      | ret u =>
        obtain ⟨v, H', os, bare, un, ok', rv, ev⟩ := hr
        have ev : v = .bl true := ev
        subst ev
        cases (show u = Value.bool true from rv)
        have still : ∀ b o, s.heap.get? b = some o → (∃ p ∈ cs, p.2 = b) ∨ s'.heap.get? b = some o := fun b o e => by
          cases q : H b with
          | none => exact .inr (un.keep b o e q (fun z => absurd z List.not_mem_nil) List.not_mem_nil)
          | some u =>
            rcases only b u q with ⟨rfl, ob, rfl, e1⟩ | ⟨hp, _⟩
            · rw [e] at e1
              cases e1
              exact .inr (ok' _ _ (un.frzs _ _ _ q)).1
            · exact .inl hp
        have more : ∀ p ∈ cs, ∃ ps : Array Value, s'.heap.get? p.2 = some { cls := .none, data := .fields ps } := fun p hp => by
          obtain ⟨ps, z⟩ := un.tbls p.2 #[] (isT p hp)
          exact ⟨_, ok' p.2 _ z⟩
        refine ⟨rfl, ⟨fun b o e => ?_, fun b o e => ?_⟩, os, bare⟩
        · rcases still b o e with ⟨p, hp, rfl⟩ | z
          · obtain ⟨ps, hps⟩ := more p hp
            rw [tab0 p hp] at e
            cases e
            exact .inr (.inl ⟨((tabC p hp).tab (tab0 p hp)).isCodeTable, rfl, #[], ps, rfl, by simpa using hps⟩)
          · exact .inl z
        · rcases still b o e with ⟨p, hp, rfl⟩ | z
          · obtain ⟨ps, hps⟩ := more p hp
            exact ⟨_, hps⟩
          · exact ⟨o, z⟩
  have inT : ∀ b, (b ∈ cs.map (·.2)) ↔ ∃ p ∈ cs, p.2 = b := fun b => List.mem_map
  have anT : ¬ a ∈ cs.map (·.2) := fun z => by
    obtain ⟨p, hp, e⟩ := (inT a).mp z
    exact nla p hp e
  cases hk : K.lookup a with
  | some o =>
    have e := inK a o hk
    rw [hobj] at e
    cases e
    have one : ∀ {b u}, (if b ∈ cs.map (·.2) then some (HO.tbl #[]) else none) = some u → (∃ p ∈ cs, p.2 = b) ∧ u = .tbl #[] := fun {b u} z => by
      split at z
      · rename_i hb
        cases z; exact ⟨(inT b).mp hb, rfl⟩
      · cases z
    refine go (fun b => if b ∈ cs.map (·.2) then some (.tbl #[]) else none) (fun b u z => .inr (one z)) (fun p hp => if_pos ((inT _).mpr ⟨p, hp, rfl⟩)) (.inr (.inr ⟨us.toArray, _, hk, by rw [List.size_toArray, ulen]; exact hlen, by simpa using rel⟩)) (fun b u z => ?_) fun z => absurd (if_neg anT) z
    obtain ⟨⟨p, hp, rfl⟩, rfl⟩ := one z
    exact tab0 p hp
  | none =>
    have one : ∀ {b u}, (if b = a then some (HO.frz { cls := .type "list", data := .seq us.toArray } (.lst (ns.map V.int))) else if b ∈ cs.map (·.2) then some (HO.tbl #[]) else none) = some u → (b = a ∧ u = .frz { cls := .type "list", data := .seq us.toArray } (.lst (ns.map V.int))) ∨ ((∃ p ∈ cs, p.2 = b) ∧ u = .tbl #[]) := fun {b u} z => by
      split at z
      · cases z; exact .inl ⟨by assumption, rfl⟩
      · split at z
        · rename_i hb
          cases z; exact .inr ⟨(inT b).mp hb, rfl⟩
        · cases z
    refine go (fun b => if b = a then some (.frz { cls := .type "list", data := .seq us.toArray } (.lst (ns.map V.int))) else if b ∈ cs.map (·.2) then some (.tbl #[]) else none) (fun b u z => ?_) (fun p hp => ?_) (.inr (.inl ⟨_, if_pos rfl⟩)) (fun b u z => ?_) fun _ => hk
    · rcases one z with ⟨rfl, rfl⟩ | z
      · exact .inl ⟨rfl, _, rfl, hobj⟩
      · exact .inr z
    · show (if p.2 = a then _ else _) = _
      rw [if_neg (nla p hp), if_pos ((inT _).mpr ⟨p, hp, rfl⟩)]
    · rcases one z with ⟨rfl, rfl⟩ | ⟨⟨p, hp, rfl⟩, rfl⟩
      · exact ⟨hobj, by rw [List.length_map]; exact hlen, us, _, rel, hobj⟩
      · exact tab0 p hp
end
section
variable [Wtp] [Tbl]
open LamX
/-! ## raise of a class with fields: its __init__ tells its base's, then keeps the fields -/
structure IniC (K : Frg) (CS : Addr) : Prop where
  rd : PySem.W.readsIn K CS (.type "type") = true
  sp : PySem.W.specialIn K (.ref CS) "__getattribute__" = some (some (.builtin "type.__getattribute__"))
  fc : PySem.W.findCls K (.ref CS) (.type "type") "__init__" = some (.val (.builtin "ValueError.__init__"))
def iniB (K : Frg) (CS : Addr) : Bool := PySem.W.readsIn K CS (.type "type") && (decide (PySem.W.specialIn K (.ref CS) "__getattribute__" = some (some (.builtin "type.__getattribute__"))) &&
  (match PySem.W.findCls K (.ref CS) (.type "type") "__init__" with | some (.val (.builtin n)) => n == "ValueError.__init__" | _ => false))
theorem iniC_of {K : Frg} {CS : Addr} (h : iniB K CS = true) : IniC K CS := by
  unfold iniB at h
  simp only [Bool.and_eq_true, decide_eq_true_eq] at h
  obtain ⟨h1, h2, h3⟩ := h
  refine ⟨h1, h2, ?_⟩
  split at h3
  · rename_i n e
    rw [e, eq_of_beq h3]
  · cases h3
/-- how Base.__init__(self, "..") is evaluated, at the text's places -/
def TellOk (p1 p2 p3 p4 p5 : Pos) (m : Str) (jj : Nat) : Prop := ∀ env : Env, ∃ pl : Sem Bool, eval (.Call (.Attribute (.Name "StoneError" p1) "__init__" p2) [.Name "self" p3, .Constant (.str m) jj p4] [] p5) env = (do
      let ov ← eval (.Name "StoneError" p1) env
      standAt p2.atName
      let (f, first) ← holding [ov] (getMethod ov "__init__" pl)
      callWith p5 f first (backTo p5 (starEach [.Name "self" p3, .Constant (.str m) jj p4] env)) (backToKw p5 (keywordEach [] env)))
/-- what telling the base's __init__ asks: the thing that is being made stands in slot 0 -/
def tTell (K : Frg) : TE := fun σ H Q => ∃ (a C : Addr), σ[0]? = some (some (V.ref a)) ∧ OexC K C ∧ H a = some (exo a C none) ∧ Q .non H
theorem pe_tell {X : Cx} {CS : Addr} {p1 p2 p3 p4 p5 : Pos} {m : Str} {jj : Nat} (hg : Gl X "StoneError") (hm : X.mg "StoneError" = some (.ref CS)) (i : IniC X.K CS) (h0 : X.N[0]? = some ("self" : Str)) (v0 : Vis X.env.scope "self") (hdb : (("StoneError" : Str) == ("__debug__" : Str)) = false) (ok : TellOk p1 p2 p3 p4 p5 m jj) :
    PE X (.Call (.Attribute (.Name "StoneError" p1) "__init__" p2) [.Name "self" p3, .Constant (.str m) jj p4] [] p5) (tTell X.K) := by
  constructor
  rintro pins s σ H Q I ⟨a, C, hs, T, ha, q⟩
  obtain ⟨pl, e⟩ := ok X.env
  have two : PA X [.Name "self" p3, .Constant (.str m) jj p4] (tCons (tVar 0) (tCons (tC (.str m)) tNil)) := pa_cons (pe_var h0 v0 (by decide) (by decide)) (pa_cons pe_str pa_nil)
  have fin : ∀ (us : List Value) (s1 : Shared), (∃ vs H1, Inv X pins σ H1 s1 ∧ Vals vs us ∧ vs = [V.ref a, V.str m] ∧ H1 = H) → wpAny (model X.prog X.w) X.A (call (.builtin "ValueError.__init__") us) (EP X pins σ Q) X.xe s1 := by
    rintro us s1 ⟨vs, H1, I1, r, rfl, rfl⟩
    obtain ⟨u, z, rfl, ru, _⟩ := Vals.two r
    cases ru
    exact oinit_ok T I1 ha (by rw [sizeLine_eq]; exact Nat.le_of_ble_eq_true rfl) fun s2 J => ⟨.non, _, J, rfl, q⟩
  refine PySem.W.methodCall_KW (ld_glob I hg hm (PySem.W.method_cls I.kIn i.sp (PySem.W.cls_value I.kIn i.rd i.fc rfl ?_)) hdb) e
  exact PyProof.Rows.callWith_method1 (thn (two.run p5 pins _ σ H (fun vs H1 => vs = [V.ref a, V.str m] ∧ H1 = H) (I.tok _) ⟨_, hs, rfl, rfl⟩) fin) rfl rfl
/-- what an __init__ of these fields leaves -/
def spI (K : Frg) (C : Addr) (fns : List Str) : Sp := fun vs H Q _ => ∃ (a : Addr) (ys : List V), vs = .ref a :: ys ∧ ys.length = fns.length ∧ H a = some (exo a C none) ∧
  ∀ d, H d = none → d ≠ a → Q .non (upd (upd H d (exd d (fns.zip ys).reverse)) a (exo a C (some d)))
theorem tell_only {K : Frg} {C : Addr} {f : Str} {y : V} {D : L2.Ends} {H : Hp} {σ : L2.St} {a : Addr} (T : OexC K C) (hno : PySem.W.findIn K (.ref C) f = some none) (h0 : σ[0]? = some (some (.ref a))) (hi : σ[1]? = some (some y)) (ha : H a = some (exo a C none))
    (q : ∀ d, H d = none → d ≠ a → D.nx σ (upd (upd H d (exd d [(f, y)])) a (exo a C (some d)))) :
    tSeq (tDrop (tTell K)) (tOst K f (tVar 0) (tVar 1)) D σ H :=
  ⟨a, C, h0, T, ha, y, hi, .ref a, h0, a, C, rfl, T, hno, .inl ⟨ha, fun d hd hne => q d hd hne⟩⟩
/-! ## the three kinds of __init__ -/
def initT (x : Str) (fns : List Str) (sc : Scope) : Bool := ((("self" : Str) :: fns).all fun y => decide (sc.names.lookup y = some .local)) && (decide (sc.names.lookup x = some .globalImplicit) && ((x == ("__debug__" : Str)) == false && fns.all fun y => (y == ("__debug__" : Str)) == false && (y == ("__classdict__" : Str)) == false))
theorem initT_of {x : Str} {fns : List Str} {sc : Scope} (h : initT x fns sc = true) : (∀ y ∈ (("self" : Str) :: fns), sc.names.lookup y = some .local) ∧ sc.names.lookup x = some .globalImplicit ∧ (x == ("__debug__" : Str)) = false ∧ ∀ y ∈ fns, (y == ("__debug__" : Str)) = false ∧ (y == ("__classdict__" : Str)) = false := by
  unfold initT at h
  simp only [Bool.and_eq_true, List.all_eq_true, decide_eq_true_eq, beq_iff_eq] at h
  exact ⟨h.1, h.2.1, h.2.2.1, h.2.2.2⟩
section
variable {M : Md} {C CS fI : Addr} {m f1 f2 f3 f4 : Str} {jj : Nat} {p1 p2 p3 p4 p5 p6 a1 a2 a3 a4 b1 b2 b3 b4 c1 c2 c3 c4 d1 d2 d3 d4 : Pos} {name qual : Str} {params : Arguments} {body : List Stmt} {scope : Scope} {dV kV doc pm cdv ct oc : Value} {an od : Option Addr} {osl : Array (Option Value)}
theorem init_1 (lk : M.K.lookup fI = some ⟨oc, od, .func (PySem.W.fnOf name qual params body scope dV kV doc pm an cdv ct), osl⟩) (hcd : PySem.W.codeIn M.K cdv qual = true) (SC : FnScope ["self", f1] ["self", f1] scope) (hs : initT "StoneError" [f1] scope = true)
    (hCS : M.mg "StoneError" = some (.ref CS)) (i : IniC M.K CS) (T : OexC M.K C) (hno : ∀ f ∈ [f1], PySem.W.findIn M.K (.ref C) f = some none)
    (hb : body = [.Expr (.Call (.Attribute (.Name "StoneError" p1) "__init__" p2) [.Name "self" p3, .Constant (.str m) jj p4] [] p5) p6, .Assign [.Attribute (.Name "self" a1) f1 b1] (.Name f1 c1) d1])
    (hc : TellOk p1 p2 p3 p4 p5 m jj) :
    FnOk M.P M.w M.K M.mg M.base (L2.CX M.P M.w) 1 fI (PySem.W.fnOf name qual params body scope dV kV doc pm an cdv ct) ["self", f1] (spI M.K C [f1]) := by
  subst hb
  obtain ⟨h1, h2, h3, h4⟩ := initT_of hs
  refine fn_of lk hcd SC (fun vs H Q E h => by obtain ⟨a, ys, rfl, hl, _⟩ := h; simp [hl]) fun A outer s H vs Q E hr h => ?_
  obtain ⟨a, ys, rfl, hl, ha, hq⟩ := h
  have v : ∀ y ∈ (["self", f1] : List Str), Vis scope y := fun y hy => .inl (h1 y hy)
  rcases ys with _ | ⟨y1, _ | ⟨_, _⟩⟩ <;> simp at hl
  refine ⟨_, pss_cons (ps_expr (pe_tell (CS := CS) h2 hCS i rfl (v _ (by simp)) h3 hc)) (pss_one (ps_ost (pe_var (i := 0) rfl (v _ (by simp))) (pe_var (i := 1) rfl (v _ (by simp)) (h4 f1 (by simp)).1 (h4 f1 (by simp)).2))), ?_⟩
  exact tell_only T (hno _ (by simp)) rfl rfl ha fun d hd hne => hq d hd hne
end
/-! ## the class, the raise -/
def clsM : Stmt → Stmt
  | .ClassDef (body := b) .. => b.getD 0 (.Pass ⟨0, 0, 0, 0⟩)
  | _ => .Pass ⟨0, 0, 0, 0⟩
structure XfF (M : Md) (x : Str) (C : Addr) (fns : List Str) : Prop where
  mg : M.mg x = some (.ref C)
  oex : OexC M.K C
  fn : ∃ (fI : Addr) (fd : FuncData), PySem.W.findIn M.K (.ref C) "__init__" = some (some (.ref fI)) ∧ PySem.W.typeIn M.K (.ref fI) = some (.type "function") ∧ Binds M.K fd ("self" :: fns) [] ∧ FnOk M.P M.w M.K M.mg M.base (L2.CX M.P M.w) 1 fI fd ("self" :: fns) (spI M.K C fns)
def raiseW (x : Str) (fns : List Str) (ws : List Wv) (st1 : Sto) : SR := match allD ws with
  | some ds => if ds.length = fns.length then .ex ⟨x, (fns.zip ds).reverse⟩ st1 else .no
  | none => .no
def sRaiseF (x : Str) (fns : List Str) (cs : En → Sto → Rs (List Wv)) : En → Sto → SR := fun env st => (cs env st).sb (raiseW x fns)
@[simp] theorem x_raiseF (x : Str) (fns : List Str) (c : En → Sto → Rs (List Wv)) (env : En) (st : Sto) : sRaiseF x fns c env st = (c env st).sb (raiseW x fns) := rfl
theorem allD_len : ∀ {ws : List Wv} {ds : List PyData}, allD ws = some ds → ds.length = ws.length
  | [], _, e => by cases e; rfl
  | .d x :: ws, ds, e => by
    rw [allD_cons] at e
    cases q : allD ws with
    | none => rw [q] at e; cases e
    | some xs => rw [q] at e; cases e; simp [allD_len q]
  | .r _ :: _, _, e => by cases e
  | .x _ _ _ :: _, _, e => by cases e
theorem zip_fst : ∀ {α β γ : Type} {l : List α} {xs : List β} {ys : List γ}, xs.length = l.length → ys.length = l.length → (l.zip xs).map (·.1) = (l.zip ys).map (·.1)
  | _, _, _, [], _, _, _, _ => rfl
  | _, _, _, _ :: _, [], _, h, _ => by cases h
  | _, _, _, _ :: _, _ :: _, [], _, h => by cases h
  | _, _, _, a :: l, _ :: xs, _ :: ys, h1, h2 => by simp at h1 h2; simp [zip_fst h1 h2]
theorem zip_snd : ∀ {α β : Type} {l : List α} {xs : List β}, xs.length = l.length → (l.zip xs).map (·.2) = xs
  | _, _, [], [], _ => rfl
  | _, _, [], _ :: _, h => by cases h
  | _, _, _ :: _, [], h => by cases h
  | _, _, a :: l, _ :: xs, h1 => by simp at h1; simp [zip_snd h1]
theorem ds_raiseF {M : Md} {X : Cx} {B : Tb} {k : Nat} {pos p p3 : Pos} {fns : List Str} {e : Expr} {es : List Expr} {cs : En → Sto → Rs (List Wv)} (c : Cxt M X B k) (hk : 2 ≤ k) (j : Nat) {x : Str} (hg : B.gs[j]? = some x) (F : ∃ C, XfF M x C fns) (ha : DA X (e :: es) cs) (hz : fns.length ≤ 900 := by decide) (hdb : (x == ("__debug__" : Str)) = false := by decide)
    (he : starEach (e :: es) X.env = (false, eval e X.env) :: starEach es X.env := by rfl) (hpl : (backTo p3 (starEach es X.env)).any (·.1) = false := by rfl) :
    DS X (.Raise (some (.Call (.Name x p) (e :: es) [] p3)) none pos) (sRaiseF x fns cs) := by
  obtain ⟨C, F⟩ := F
  obtain ⟨fI, fd, i1, i2, i3, i4⟩ := F.fn
  obtain ⟨P, w, K, mg, base⟩ := M
  obtain ⟨rfl, rfl, rfl, rfl, rfl⟩ : X.prog = P ∧ X.w = w ∧ X.K = K ∧ X.mg = mg ∧ X.base = base := ⟨c.hP, c.hw, c.hK, c.mg, c.hb⟩
  refine ⟨fun W tk => PS.imp (ps_raise c.calm tk (pmk_oex (CX := L2.CX X.prog X.w) F.oex i1 i2 i4 (c.room.mono hk) i3 .nil (fun pins σ H s e s' I ⟨_, _, _, _, _, _, _, _, _, _, _, _, z⟩ => z.elim) (c.gl j x hg) F.mg (ha.pa W tk) hdb he hpl)) fun D σ H ⟨m, env, st, S, R, hp⟩ => ?_⟩
  unfold sRaiseF at hp
  rw [Rs.post_sb] at hp
  unfold raiseW at hp
  refine ⟨m, env, st, S, R, Rs.post_mono hp (fun ws st1 q vs H1 m1 f1 S1 r1 => ?_) fun _ _ h => h.x⟩
  split at q
  · rename_i ds e1
    split at q
    · rename_i hl
      have ra := allD_rp r1 e1
      have hv : vs.length = fns.length := by rw [r1.len, ← allD_len e1, hl]
      refine ⟨by omega, fun a hn => ⟨a, vs ++ [], rfl, by simpa using hv, upd_same, fun d hd hne => ⟨rfl, d, (fns.zip vs).reverse, upd_same, ?_, ?_, ?_⟩⟩⟩
      · rw [upd_ne hne, upd_same, List.append_nil]
      · rw [upd_ne hne] at hd; exact hd
      · rw [upd_ne hne] at hd
        rw [show upd (del (upd (upd (upd H1 a (exo a C none)) d (exd d (fns.zip (vs ++ [])).reverse)) a (exo a C (some d))) a) d (.xd (fns.zip vs).reverse) = upd H1 d (.xd (fns.zip vs).reverse) from by
          funext b
          by_cases z : b = d
          · rw [z, upd_same, upd_same]
          · rw [upd_ne z, upd_ne z]
            by_cases z2 : b = a
            · rw [z2, del_same, hn]
            · rw [del_ne z2, upd_ne z2, upd_ne z, upd_ne z2]]
        have g := grow_upd (o := .xd (fns.zip vs).reverse) hd
        refine q (.ref C) (some d) σ _ m1 (f1.trans (.same g)) (S1.grow g) ⟨⟨C, F.mg, rfl⟩, .inr ⟨d, rfl, (fns.zip vs).reverse, upd_same, ?_, ?_, S1.fresh hd⟩⟩
        · rw [List.map_reverse, List.map_reverse, zip_fst hv hl]
        · rw [List.map_reverse, List.map_reverse, zip_snd hv, zip_snd hl]
          exact (ra.mv (Fol.same (m := m1) (n := st1.length) g).kp).rev
    · exact q.elim
  · exact q.elim
theorem sh_isx2 (ea dd : Addr) (xn : Str) (es : List (Str × PyData)) (b : Bool) (env : En) (st : Sto) : eIsx ea xn (some dd) b 0 (some (.x ea xn (some (dd, es))) :: env) st = .ok (.d (.bool b)) st := sh_isx ea xn (some (dd, es)) b env st
theorem sh_xfO {fl : List (Str × List Str)} {ea dd : Addr} {xn f : Str} {es : List (Str × PyData)} {y : PyData} (h : f ∈ (fl.lookup xn).getD []) (hy : es.lookup f = some y) (env : En) (st : Sto) : eXfO fl ea xn (some dd) f 0 (some (.x ea xn (some (dd, es))) :: env) st = .ok (.d y) st := by
  unfold eXfO
  rw [if_pos h]
  exact x_xf _ _ _ _ _ _ _ _ _ rfl hy
end
section
variable [Wtp] [Tbl]
/-! ## defs as values: for f in (g, h, ..), f called -/
/-- where the module's defs stand -/
class FnA where
  a : Str → Addr
variable [FnA]
def fnv (x : Str) : Wv := .x (FnA.a x) x none
noncomputable def goF (c : En → Sto → Rs Wv) (i : Nat) (env : En) : List Str → List PyData → Sto → Rs (List PyData)
  | [], acc, st => .ok acc st
  | x :: r, acc, st => match c (env.set i (some (fnv x))) st with
    | .ok (.d y) st2 => goF c i env r (acc ++ [y]) st2
    | _ => .no
noncomputable def eLcF (fs : List Str) (i : Nat) (c : En → Sto → Rs Wv) (vs : List Nat) : En → Sto → Rs Wv := fun env st => (goF c i (wipeE env vs) fs [] st).bind fun ys st2 => .ok (.d (.list ys)) st2
@[simp] theorem x_lcF (fs : List Str) (i : Nat) (c : En → Sto → Rs Wv) (vs : List Nat) (env : En) (st : Sto) : eLcF fs i c vs env st = (goF c i (wipeE env vs) fs [] st).bind fun ys st2 => .ok (.d (.list ys)) st2 := rfl
/-! ### the law's own call, its reading by where the defs stand -/
omit [FnA] in
theorem walk_runF {α : Type} {ts : List Addr} {g : Bool} {l : PySem.W.OpenLaw} {n k : Nat} {q : Program} {loose : List Str} {XP : (Str → Option Value) → Heap → Prop} {YP : World → Heap → Prop} {d : DefRec} {K : Params → Frg} {x : Str} {mf : α → List Wv → Sto → Rs Wv}
    (hI : importsNone q = true) (hn : l.most = some n) (hn2 : n ≤ sizeLine) (hdf : d.params.defaults = []) (hr : Room k callerA) (hY : ∀ (w : World) (h : Heap), YP w h → (K w.params).In h) (hT : ∀ (w : World) (h : Heap), YP w h → ∀ P ∈ ts, h.get? P = some (PySem.W.tabObj #[]))
    (F : ∀ (w : World) (mg : Str → Option Value) (fa : Addr) (h : Heap), (K w.params).In h → h.Ns mainGlobals mg → mg d.name = some (.ref fa) →
      ∃ (al : α) (fd : FuncData) (TT : Tbl) (cs : List (Addr × Addr)), (∀ p ∈ TT.T, ∃ c, (c, p.1) ∈ cs) ∧ (∀ p ∈ cs, p.2 ∈ ts ∧ (K w.params).lookup p.2 = none ∧ PySem.W.codeHdIn (K w.params) p.1 p.2 = true) ∧
        (∀ (s : Shared) (u : Value), BindsTo s fd ⟨[u], []⟩ [(x, u)]) ∧ ∀ base : Heap, (K w.params).In base → base.Ns mainGlobals mg → SysM base → (∀ p ∈ cs, LamX.TabB base mg p.1 p.2) → @Fnk _ TT ⟨l.prog, w, K w.params, mg, base⟩ g k fa fd [x] (mf al))
    (law : ∀ (al : α) (ns : List Int), ns.length ≤ n → ∃ st, mf al [.d (.list (ns.map .int))] [] = .ok (.d (.bool true)) st) :
    PySem.W.WalkO q loose XP YP l.row.toRowW d [] (fun f vs => PySem.call f vs) := by
  refine Att.attach_call hn hdf fun w s0 s mg mb fa o pm cd doc a us ns G Y ho hd hcd hmg hobj hints hlen hg => ?_
  have inK := hY w _ Y
  obtain ⟨al, fd, TT, cs, h1, h2, hb, hF⟩ := F w mg fa _ inK G.T.g hmg
  obtain ⟨st, hl⟩ := law al ns hlen
  exact law_runT h1 inK G.T.g G.T.b G.T.builtins G.T.nolimit (sysM_of (G.T.seer hI)) hg (fun p hp => hT w _ Y _ (h2 p hp).1) (fun p hp => (h2 p hp).2.1) (fun p hp => PySem.W.codeHd_of_K inK (h2 p hp).2.2) G.T.bmain hobj hints (Nat.le_trans hlen hn2) hr hF hb hl
end
section
variable [Wtp] [Tbl]
open LamX
/-! ## lambdas kept in a list: read by data -/
def goK (T : Option Str) (fl : Xc → Option PyData) (env : En) : List (En → Sto → Rs Wv) → List PyData → Sto → Rs (List PyData)
  | [], acc, st => .ok acc st
  | cl :: r, acc, st => match saidR T fl st.length (cl env st) with
    | .ok (.d y) st2 => goK T fl env r (acc ++ [y]) st2
    | _ => .no
@[simp] theorem goK_nil (T : Option Str) (fl : Xc → Option PyData) (env : En) (acc : List PyData) (st : Sto) : goK T fl env [] acc st = .ok acc st := rfl
end
section
/-! ## t.count(x), t a tuple told plain -/
section
variable [Wtp] [Tbl]
def isTd (st : Sto) (w : Wv) : Bool := match look st w with
  | some (.tuple _) => true
  | _ => false
def eMdT (f : PyData → List PyData → Option PyData) (co : En → Sto → Rs Wv) (cs : En → Sto → Rs (List Wv)) : En → Sto → Rs Wv := fun env st => (co env st).bind fun w st1 => if isTd st1 w = true then (cs env st1).bind fun ws st2 => match look st2 w, looks ws st2 with
    | some d, some ds => ret1 (f d ds) st2
    | _, _ => .no
  else .no
@[simp] theorem x_mdt (env : En) (st : Sto) (f : PyData → List PyData → Option PyData) (co : En → Sto → Rs Wv) (cs : En → Sto → Rs (List Wv)) : eMdT f co cs env st = ((co env st).bind fun w st1 => if isTd st1 w = true then (cs env st1).bind fun ws st2 => match look st2 w, looks ws st2 with
    | some d, some ds => ret1 (f d ds) st2
    | _, _ => .no
  else .no) := rfl
variable {M : Md} {X : Cx} {B : Tb} {k : Nat} {pins : List (Addr × Obj)} {σ : L2.St} {H : Hp} {s : Shared} {W : WX} {pos apos : Pos} {o e : Expr} {es : List Expr} {co : En → Sto → Rs Wv} {cs : En → Sto → Rs (List Wv)}
end
/-! ## [k + (d[k],) for k in d], d a dict of the def's own, its keys tuples -/
end
section
/-! ## list(d.values()) of a dict whose keys are no tuples -/
section
variable [Wtp] [Tbl]
def vlsF : PyData → Option PyData
  | .dict es => if kindK es = true ∧ es.length ≤ 1000000 then some (.list (es.map (·.2))) else none
  | _ => none
def eVls (co : En → Sto → Rs Wv) : En → Sto → Rs Wv := fun env st => (co env st).bind fun w st1 => look1 w st1 fun d => ret1 (vlsF d) st1
@[simp] theorem x_vls (env : En) (st : Sto) (co : En → Sto → Rs Wv) : eVls co env st = (co env st).bind fun w st1 => look1 w st1 fun d => ret1 (vlsF d) st1 := rfl
variable {M : Md} {X : Cx} {B : Tb} {k : Nat} {pins : List (Addr × Obj)} {σ : L2.St} {H H2 : Hp} {s : Shared} {m : Mp} {env : En} {st : Sto} {W : WX} {pos apos p p2 kpos ipos : Pos} {o e : Expr} {co ce : En → Sto → Rs Wv}
end
end
section
variable [Wtp] [Tbl]
/-! ## instances: attributes read and set, methods called, instances made -/
theorem RpA.lk {K : Frg} {H : Hp} {Z : Addr → Prop} : ∀ {fs : List (Str × V)} {es : List (Str × PyData)}, fs.map (·.1) = es.map (·.1) → RpA K H Z (fs.map (·.2)) (es.map (·.2)) → ∀ {f : Str} {x : PyData}, es.lookup f = some x → ∃ v, fs.lookup f = some v ∧ Rp K H Z v x
  | [], [], _, _, f, x, e => by cases e
  | [], _ :: _, n, _, f, x, e => by cases n
  | _ :: _, [], n, _, f, x, e => by cases n
  | (g, v) :: fs, (h, y) :: es, n, r, f, x, e => by
    simp only [List.map_cons, List.cons.injEq] at n
    obtain ⟨rfl, n⟩ := n
    cases r with
    | cons r1 r2 =>
      unfold List.lookup at e ⊢
      cases q : f == g with
      | true =>
        rw [q] at e
        cases e
        exact ⟨v, rfl, r1⟩
      | false =>
        rw [q] at e
        exact RpA.lk n r2 e
theorem RpA.lkn : ∀ {fs : List (Str × V)} {es : List (Str × PyData)}, fs.map (·.1) = es.map (·.1) → ∀ {f : Str}, es.lookup f = none → fs.lookup f = none
  | [], [], _, f, e => rfl
  | [], _ :: _, n, f, e => by cases n
  | _ :: _, [], n, f, e => by cases n
  | (g, v) :: fs, (h, y) :: es, n, f, e => by
    simp only [List.map_cons, List.cons.injEq] at n
    obtain ⟨rfl, n⟩ := n
    unfold List.lookup at e ⊢
    cases q : f == g with
    | true => rw [q] at e; cases e
    | false => rw [q] at e; exact RpA.lkn n e
/-- an attribute set -/
def putP (f : Str) (x : PyData) : List (Str × PyData) → List (Str × PyData)
  | [] => [(f, x)]
  | (g, y) :: r => if g = f then (g, x) :: r else (g, y) :: putP f x r
theorem put_rp {K : Frg} {H : Hp} {Z : Addr → Prop} {f : Str} {v : V} {x : PyData} (rv : Rp K H Z v x) : ∀ {fs : List (Str × V)} {es : List (Str × PyData)}, fs.map (·.1) = es.map (·.1) → RpA K H Z (fs.map (·.2)) (es.map (·.2)) → (putF f v fs).map (·.1) = (putP f x es).map (·.1) ∧ RpA K H Z ((putF f v fs).map (·.2)) ((putP f x es).map (·.2))
  | [], [], _, _ => ⟨rfl, .cons rv .nil⟩
  | [], _ :: _, n, _ => by cases n
  | _ :: _, [], n, _ => by cases n
  | (g, u) :: fs, (h, y) :: es, n, r => by
    simp only [List.map_cons, List.cons.injEq] at n
    obtain ⟨rfl, n⟩ := n
    cases r with
    | cons r1 r2 =>
      have ih := put_rp (f := f) rv n r2
      unfold putF putP
      by_cases q : g = f
      · rw [if_pos q, if_pos q]
        exact ⟨by simp only [List.map_cons, n], .cons rv r2⟩
      · rw [if_neg q, if_neg q]
        exact ⟨by simp only [List.map_cons, ih.1], .cons r1 ih.2⟩
section
variable {K : Frg} {H : Hp} {m : Mp} {n : Nat} {st : Sto}
theorem Kp.wrI {i : Nat} {o' : HO} {C dx : Addr} {fs : List (Str × V)} (hi : i < n) (h : H (m.ix i) = some (.ins C dx fs)) : Kp K H (Off m n) (upd H (m.ix i) o') (Off m n) := by
  refine ⟨fun a xs e => ?_, fun a o u e => ?_, fun a o _ e z => ⟨?_, z⟩⟩
  · rw [upd_ne]; exact e
    intro q; rw [q, h] at e; cases e
  · rw [upd_ne]; exact e
    intro q; rw [q, h] at e; cases e
  · rw [upd_ne]; exact e
    exact fun q => z.1 i hi q.symm
theorem Fol.wrI {i : Nat} {o' : HO} {C dx : Addr} {fs : List (Str × V)} (hi : i < n) (h : H (m.ix i) = some (.ins C dx fs)) (nt : NT o' := by exact fun _ z => nomatch z) : Fol m n H m n (upd H (m.ix i) o') := by
  have kp := Kp.wrI (K := ([] : Frg)) (o' := o') hi h
  refine ⟨kp.tup, kp.frz, fun a u _ e z => ?_, fun _ _ => rfl, fun i a b => absurd b (by omega), Nat.le_refl _, fun a e => ?_, fun _ _ => Iff.rfl⟩
  · rw [upd_ne]; exact e
    exact fun q => z i hi q.symm
  · by_cases q : a = m.ix i
    · rw [q]; exact ⟨_, upd_same, nt⟩
    · obtain ⟨u, e1, e2⟩ := e
      exact ⟨u, by rw [upd_ne q]; exact e1, e2⟩
theorem tabs_wrI {T : List (Addr × Str)} {a : Addr} {o' : HO} {C dx : Addr} {fs : List (Str × V)} (t : LamX.Tabs T H) (h : H a = some (.ins C dx fs)) : LamX.Tabs T (upd H a o') := fun p hp => by
  obtain ⟨ps, h1, h2, h3⟩ := t p hp
  refine ⟨ps, ?_, h2, fun pos cv hc => ?_⟩
  · rw [upd_ne]; exact h1
    intro q; rw [q, h] at h1; cases h1
  · obtain ⟨c, e, hq⟩ := h3 pos cv hc
    refine ⟨c, e, ?_⟩
    rw [upd_ne]; exact hq
    intro q; rw [q, h] at hq; cases hq
theorem Sim.wrI {i : Nat} {C dx : Addr} {fs : List (Str × V)} {o' : HO} {ob : Ob} (S : Sim K H m st) (hi : i < st.length) (h : H (m.ix i) = some (.ins C dx fs)) (hob : ObAt K (upd H (m.ix i) o') m st.length (m.ix i) ob) (nt : NT o' := by exact fun _ z => nomatch z) : Sim K (upd H (m.ix i) o') m (st.set i ob) := by
  have kp := Kp.wrI (K := K) (o' := o') hi h
  have f := Fol.wrI (o' := o') hi h nt
  have hl : (st.set i ob).length = st.length := List.length_set
  refine ⟨fun j u e => ?_, fun a b ha hb => S.inj a b (hl ▸ ha) (hl ▸ hb), fun a z => f.dom a (S.ff a z), fun j hj => S.fi j (hl ▸ hj), tabs_wrI S.tb h⟩
  rw [hl]
  by_cases q : i = j
  · subst q
    rw [List.getElem?_set_self hi] at e
    cases e
    exact hob
  · rw [List.getElem?_set_ne q] at e
    have hj : j < st.length := (List.getElem?_eq_some_iff.mp e).1
    have ne : m.ix j ≠ m.ix i := fun z => q (S.inj j i hj hi z).symm
    exact (S.ob j u e).mv f fun u2 h2 => by rw [upd_ne ne]; exact h2
end
def fldW (C : Addr) (f : Str) (w : Wv) (st : Sto) : Rs Wv := match w with
  | .r i => match st[i]? with
    | some (.ins C' es) => if C' = C then match es.lookup f with
        | some x => .ok (.d x) st
        | none => .no
      else .no
    | _ => .no
  | _ => .no
/-- e.f -/
def eFld (C : Addr) (f : Str) (co : En → Sto → Rs Wv) : En → Sto → Rs Wv := fun env st => (co env st).bind (fldW C f)
@[simp] theorem x_fld (C : Addr) (f : Str) (co : En → Sto → Rs Wv) (env : En) (st : Sto) : eFld C f co env st = (co env st).bind (fldW C f) := rfl
def attW (C : Addr) (f : Str) (w o : Wv) (st : Sto) : Option Sto := match o, w with
  | .r i, .d x => match st[i]? with
    | some (.ins C' es) => if C' = C ∧ es.length < 1000 then some (st.set i (.ins C (putP f x es))) else none
    | _ => none
  | _, _ => none
/-- e.f = v -/
def sAtt (C : Addr) (f : Str) (co cv : En → Sto → Rs Wv) : En → Sto → SR := fun env st => (cv env st).sb fun w st1 => (co env st1).sb fun o st2 => match attW C f w o st2 with
  | some st3 => .nx env st3
  | none => .no
@[simp] theorem x_att (C : Addr) (f : Str) (co cv : En → Sto → Rs Wv) (env : En) (st : Sto) : sAtt C f co cv env st = (cv env st).sb fun w st1 => (co env st1).sb fun o st2 => match attW C f w o st2 with
  | some st3 => .nx env st3
  | none => .no := rfl
theorem fldW_ok {C : Addr} {f : Str} {i : Nat} {st : Sto} {es : List (Str × PyData)} {x : PyData} (h : st[i]? = some (.ins C es)) (e : es.lookup f = some x) : fldW C f (.r i) st = .ok (.d x) st := by
  unfold fldW
  dsimp only
  rw [h]
  dsimp only
  rw [if_pos rfl, e]
theorem attW_ok {C : Addr} {f : Str} {i : Nat} {st : Sto} {es : List (Str × PyData)} (h : st[i]? = some (.ins C es)) (l : es.length < 1000) (x : PyData) : attW C f (.d x) (.r i) st = some (st.set i (.ins C (putP f x es))) := by
  unfold attW
  dsimp only
  rw [h]
  dsimp only
  rw [if_pos ⟨rfl, l⟩]
section
variable {M : Md} {X : Cx} {B : Tb} {k : Nat} {C fa : Addr} {f x mn : Str} {o e value : Expr} {es : List Expr} {co ce cv : En → Sto → Rs Wv} {cs : En → Sto → Rs (List Wv)} {p pos pos' apos : Pos} {fd : FuncData} {ps : List Str} {mf : List Wv → Sto → Rs Wv}
theorem de_fld (c : Cxt M X B k) (hc : Cls M.K C) (hn : NoAttr M.K C f) (ho : DE X o co) (hb : attributeBase o f X.env (eval o X.env) = eval o X.env := by rfl) : DE X (.Attribute o f pos) (eFld C f co) := by
  refine ⟨fun W tk => PE.imp (pe_fld (ho.pe W tk) hb) fun σ H Q ⟨m, env, st, S, R, hp⟩ => ?_⟩
  unfold eFld at hp
  rw [Rs.post_bind] at hp
  refine ⟨m, env, st, S, R, Rs.post_mono hp (fun w st1 q v H1 m1 f1 S1 r1 => ?_) fun _ _ q => q⟩
  unfold fldW at q
  split at q
  · rename_i i
    split at q
    · rename_i C' es ex
      split at q
      · rename_i hC
        subst hC
        split at q
        · rename_i x ex2
          obtain ⟨dx, fs, h1, h2, h3⟩ := S1.ob i _ ex
          obtain ⟨u, hu, ru⟩ := RpA.lk h2 h3 ex2
          exact ⟨m1.ix i, C', dx, fs, u, r1.2, h1, by rw [c.hK]; exact hc, by rw [c.hK]; exact hn, hu, q u H1 m1 f1 S1 ru⟩
        · exact q.elim
      · exact q.elim
    · exact q.elim
  · exact q.elim
theorem ds_fld (c : Cxt M X B k) (hc : Cls M.K C) (hn : NoAttr M.K C f) (ho : DE X o co) (hv : DE X value cv) (hs : swapsWith value (some (.Attribute o f pos')) pos.line X.env = pure false := by rfl) : DS X (.Assign [.Attribute o f pos'] value pos) (sAtt C f co cv) := by
  refine ⟨fun W tk => PS.imp (ps_fld (ho.pe W tk) (hv.pe W tk) hs) fun D σ H ⟨m, env, st, S, R, hp⟩ => ?_⟩
  unfold sAtt at hp
  rw [Rs.post_sb] at hp
  refine ⟨m, env, st, S, R, Rs.post_mono hp (fun w st1 q v H1 m1 f1 S1 r1 => ?_) fun _ _ h => h.x⟩
  rw [Rs.post_sb] at q
  refine ⟨m1, env, st1, S1, R.mv f1, Rs.post_mono q (fun ow st2 q ov H2 m2 f2 S2 r2 => ?_) fun _ _ h => (okXs.tr f1 h).x⟩
  unfold attW at q
  split at q
  · rename_i st3 e3
    split at e3
    · rename_i i x
      split at e3
      · rename_i C' es ex
        split at e3
        · rename_i hC
          obtain ⟨rfl, hl⟩ := hC
          cases e3
          obtain ⟨dx, fs, h1, h2, h3⟩ := S2.ob i _ ex
          have hi : i < st2.length := (List.getElem?_eq_some_iff.mp ex).1
          have fl : fs.length = es.length := by have := congrArg List.length h2; simpa using this
          refine ⟨m2.ix i, C', dx, fs, r2.2, h1, by rw [c.hK]; exact hc, by rw [c.hK]; exact hn, by omega, ?_⟩
          have f3 : Fol m2 st2.length H2 m2 st2.length (upd H2 (m2.ix i) (.ins C' dx (putF f v fs))) := .wrI hi h1
          have hl2 : (st2.set i (Ob.ins C' (putP f x es))).length = st2.length := List.length_set
          have rp := put_rp (f := f) (Rp.mv (Rp.mv r1 f2.kp) f3.kp) h2 (h3.mv f3.kp)
          exact q σ _ m2 (by rw [hl2]; exact (f1.trans f2).trans f3) (S2.wrI hi h1 ⟨dx, _, upd_same, rp.1, rp.2⟩) (by rw [hl2]; exact ((R.mv f1).mv f2).mv f3)
        · cases e3
      · cases e3
    · cases e3
  · exact q.elim
/-- is it an instance of C without an attribute of this name -/
def isIn (C : Addr) (mn : Str) (w : Wv) (st : Sto) : Bool := match w with
  | .r i => match st[i]? with
    | some (.ins C' es) => decide (C' = C) && (es.lookup mn).isNone
    | _ => false
  | _ => false
/-- o.m(..) -/
def eMth (C : Addr) (mn : Str) (mf : List Wv → Sto → Rs Wv) (co : En → Sto → Rs Wv) (cs : En → Sto → Rs (List Wv)) : En → Sto → Rs Wv := fun env st => (co env st).bind fun w st1 => if isIn C mn w st1 = true then (cs env st1).bind fun ws st2 => mf (w :: ws) st2 else .no
@[simp] theorem x_mth (C : Addr) (mn : Str) (mf : List Wv → Sto → Rs Wv) (co : En → Sto → Rs Wv) (cs : En → Sto → Rs (List Wv)) (env : En) (st : Sto) : eMth C mn mf co cs env st = (co env st).bind fun w st1 => if isIn C mn w st1 = true then (cs env st1).bind fun ws st2 => mf (w :: ws) st2 else .no := rfl
theorem isIn_ok {C : Addr} {mn : Str} {i : Nat} {st : Sto} {es : List (Str × PyData)} (h : st[i]? = some (.ins C es)) (e : es.lookup mn = none) : isIn C mn (.r i) st = true := by
  unfold isIn
  dsimp only
  rw [h]
  dsimp only
  rw [e, decide_eq_true rfl]
  rfl
theorem isIn_of {H : Hp} {m : Mp} {st : Sto} {w : Wv} {v : V} (S : Sim X.K H m st) (r : RW X.K H m st.length v w) (h : isIn C mn w st = true) : ∃ (i : Nat) (dx : Addr) (fs : List (Str × V)), w = .r i ∧ v = .ref (m.ix i) ∧ H (m.ix i) = some (.ins C dx fs) ∧ fs.lookup mn = none := by
  unfold isIn at h
  split at h
  · rename_i i
    split at h
    · rename_i C' es ex
      rw [Bool.and_eq_true] at h
      obtain ⟨hC, hn⟩ := h
      have hC := of_decide_eq_true hC
      subst hC
      obtain ⟨dx, fs, h1, h2, _⟩ := S.ob i _ ex
      exact ⟨i, dx, fs, rfl, r.2, h1, RpA.lkn h2 (Option.isNone_iff_eq_none.mp hn)⟩
    · cases h
  · cases h
theorem run_meth {W : WX} {pins : List (Addr × Obj)} {σ : L2.St} {g : Bool} (c : Cxt M X B k) (tk : Takes X W) (F : Fnk M g k fa fd ps mf) (hb : Binds M.K fd ps []) (hgd : g = true → B.gd = true) {H0 : Hp} {m0 : Mp} {n0 : Nat} {Q : Value → Shared → Prop}
    {H1 : Hp} {m1 : Mp} {st1 : Sto} {s1 : Shared} {us : List Value} {vs : List V} {ws : List Wv} (I1 : Inv X pins σ H1 s1) (rv : Vals vs us) (f1 : Fol m0 n0 H0 m1 st1.length H1) (S1 : Sim X.K H1 m1 st1) (r1 : RWs X.K H1 m1 st1.length vs ws)
    (q : (mf ws st1).post (fun w st' => ∀ v H' m' u s', Inv X pins σ H' s' → RelV v u → Fol m0 n0 H0 m' st'.length H' → Sim X.K H' m' st' → RW X.K H' m' st'.length v w → Q u s') (okX X W m0 n0 H0 σ)) :
    wpAny (model X.prog X.w) X.A (call (.ref fa) us) Q X.xe s1 := by
  obtain ⟨P, w, K, mg, base⟩ := M
  obtain ⟨rfl, rfl, rfl, rfl, rfl⟩ : X.prog = P ∧ X.w = w ∧ X.K = K ∧ X.mg = mg ∧ X.base = base := ⟨c.hP, c.hw, c.hK, c.mg, c.hb⟩
  have hl : us.length = ps.length := by rw [← rv.length, r1.len]; exact F.len _ _ _ _ q
  have bd := hb s1 us I1.kIn (by rw [List.append_nil]; exact hl)
  rw [List.append_nil] at bd
  refine wpAny_call (codeAny_mono (F.run X.A X.stack s1 H1 ⟨us, []⟩ us vs ws m1 st1 (fun v H' => ∀ u s', Inv X pins σ H' s' → RelV v u → Q u s') (WE W σ) c.room (fun z => c.gu (hgd z)) I1.env0 bd rv S1 r1 (Rs.post_mono q (fun w st2 q2 v H2 m2 f2 S2 r2 u s2 I2 rv2 => ?_) fun e st2 q2 c d H2 m2 f2 S2 r2 => ?_)) fun r s2 hq => ?_)
  · exact q2 v H2 m2 u s2 I2 rv2 (f1.trans f2) S2 r2
  · exact q2 c d H2 m2 (f1.trans f2) S2 r2
  · cases r with
    | error e => exact passAt tk σ pins H1 s1 e s2 I1 hq
    | ok fl =>
      cases fl with
      | ret u =>
        obtain ⟨v, H2, I2, rv2, q2⟩ := I1.after hq
        exact q2 u s2 I2 rv2
      | next => exact False.elim hq
      | brk => exact False.elim hq
      | cont => exact False.elim hq
theorem de_meth {g : Bool} {pl : Sem Bool} (c : Cxt M X B k) (F : Fnk M g k fa fd ps mf) (hc : Cls M.K C) (hm : Meth M.K C mn fa) (hb : Binds M.K fd ps []) (hgd : g = true → B.gd = true) (ho : DE X o co) (ha : DA X (e :: es) cs)
    (hst : starEach (e :: es) X.env = (false, eval e X.env) :: starEach es X.env := by rfl) (hpl : (backTo pos (starEach es X.env)).any (·.1) = false := by rfl)
    (ht : eval (.Call (.Attribute o mn apos) (e :: es) [] pos) X.env = (do
      let ov ← eval o X.env
      standAt apos.atName
      let (f, first) ← holding [ov] (getMethod ov mn pl)
      callWith pos f first (backTo pos (starEach (e :: es) X.env)) (backToKw pos (keywordEach [] X.env))) := by rfl) : DE X (.Call (.Attribute o mn apos) (e :: es) [] pos) (eMth C mn mf co cs) := by
  refine .mk' fun W pins σ H s m env st Q tk I S R hp => ?_
  unfold eMth at hp
  rw [Rs.post_bind] at hp
  refine PySem.W.methodCall_KW (pl := pl) (ho.go tk I S R (Rs.post_mono hp (fun w st1 q v H1 m1 u s1 I1 rv f1 S1 r1 => ?_) fun _ _ q => q)) ht
  split at q
  · rename_i hw
    rw [Rs.post_bind] at q
    obtain ⟨i, dx, fs, rfl, rfl, h1, h2⟩ := isIn_of S1 r1 hw
    obtain rfl : u = Value.ref (m1.ix i) := rv
    refine getmeth_ok I1 h1 (by rw [c.hK]; exact hc) (by rw [c.hK]; exact hm) h2 ?_
    refine PySem.W.callWith_K (first := [.ref (m1.ix i)]) (h₀ := X.base) I.ok.mod.kin (by rw [c.hK]; exact hm.kp) (ha.go tk I1 S1 (R.mv f1) pos (Rs.post_mono q (fun ws st2 q vs H2 m2 us s2 I2 rv f2 S2 r2 => ⟨I2.kIn, ?_⟩) fun _ _ q => okX.tr f1 q)) hst hpl
    exact run_meth c tk F hb hgd (us := .ref (m1.ix i) :: us) (vs := .ref (m1.ix i) :: vs) (ws := .r i :: ws) I2 (.cons rfl rv) (f1.trans f2) S2 (.cons (r1.mv f2) r2) q
  · exact q.elim
theorem de_meth0 {g : Bool} {pl : Sem Bool} (c : Cxt M X B k) (F : Fnk M g k fa fd ps mf) (hc : Cls M.K C) (hm : Meth M.K C mn fa) (hb : Binds M.K fd ps []) (hgd : g = true → B.gd = true) (ho : DE X o co)
    (ht : eval (.Call (.Attribute o mn apos) [] [] pos) X.env = (do
      let ov ← eval o X.env
      standAt apos.atName
      let (f, first) ← holding [ov] (getMethod ov mn pl)
      callWith pos f first (backTo pos (starEach [] X.env)) (backToKw pos (keywordEach [] X.env))) := by rfl) : DE X (.Call (.Attribute o mn apos) [] [] pos) (eMth C mn mf co aNil) := by
  refine .mk' fun W pins σ H s m env st Q tk I S R hp => ?_
  unfold eMth at hp
  rw [Rs.post_bind] at hp
  refine PySem.W.methodCall_KW (pl := pl) (ho.go tk I S R (Rs.post_mono hp (fun w st1 q v H1 m1 u s1 I1 rv f1 S1 r1 => ?_) fun _ _ q => q)) ht
  split at q
  · rename_i hw
    obtain ⟨i, dx, fs, rfl, rfl, h1, h2⟩ := isIn_of S1 r1 hw
    obtain rfl : u = Value.ref (m1.ix i) := rv
    refine getmeth_ok I1 h1 (by rw [c.hK]; exact hc) (by rw [c.hK]; exact hm) h2 ?_
    exact PySem.W.callWith_K0 (first := [.ref (m1.ix i)]) I1.kIn (by rw [c.hK]; exact hm.kp) (run_meth c tk F hb hgd (us := [.ref (m1.ix i)]) (vs := [.ref (m1.ix i)]) (ws := [.r i]) I1 (.cons rfl .nil) f1 S1 (.cons r1 .nil) q)
  · exact q.elim
/-- C(..): a new instance, then __init__ -/
def makeW (C : Addr) (mf : List Wv → Sto → Rs Wv) (ws : List Wv) (st : Sto) : Rs Wv := (mf (.r st.length :: ws) (st ++ [.ins C []])).bind fun w st2 => match w with
  | .d .none => .ok (.r st.length) st2
  | _ => .no
def eMake (C : Addr) (mf : List Wv → Sto → Rs Wv) (cs : En → Sto → Rs (List Wv)) : En → Sto → Rs Wv := fun env st => (cs env st).bind (makeW C mf)
@[simp] theorem x_make (C : Addr) (mf : List Wv → Sto → Rs Wv) (cs : En → Sto → Rs (List Wv)) (env : En) (st : Sto) : eMake C mf cs env st = (cs env st).bind (makeW C mf) := rfl
theorem de_make {k' : Nat} (c : Cxt M X B k) (F : Fnk M false k' fa fd ps mf) (hk : k' + 1 ≤ k) (Mc : Mk M.K C fa) (j : Nat) (hg : B.gs[j]? = some x) (hm : M.mg x = some (.ref C)) (hb : Binds M.K fd ps []) (ha : DA X (e :: es) cs) (hdb : (x == ("__debug__" : Str)) = false := by decide)
    (he : starEach (e :: es) X.env = (false, eval e X.env) :: starEach es X.env := by rfl) (hpl : (backTo pos (starEach es X.env)).any (·.1) = false := by rfl) : DE X (.Call (.Name x p) (e :: es) [] pos) (eMake C mf cs) := by
  obtain ⟨P, w, K, mg, base⟩ := M
  obtain ⟨rfl, rfl, rfl, rfl, rfl⟩ : X.prog = P ∧ X.w = w ∧ X.K = K ∧ X.mg = mg ∧ X.base = base := ⟨c.hP, c.hw, c.hK, c.mg, c.hb⟩
  refine .mk' fun W pins σ H s m env st Q tk I S R hp => ?_
  unfold eMake at hp
  rw [Rs.post_bind] at hp
  refine wpAny_Call_Name_kw (ld_glob I (c.gl j x hg) hm ?_ hdb)
  refine PySem.W.callWith_K (h₀ := X.base) I.ok.mod.kin Mc.kp (ha.go tk I S R pos (Rs.post_mono hp (fun ws st1 q vs H1 m1 us s1 I1 rv f1 S1 r1 => ⟨I1.kIn, ?_⟩) fun _ _ q => q)) he hpl
  unfold makeW at q
  rw [Rs.post_bind] at q
  have hl : (Value.ref (s1.heap.objs.size + 1) :: us).length = ps.length := by
    have := F.len _ _ _ _ q
    rw [List.length_cons] at this ⊢
    rw [← rv.length, r1.len]; exact this
  have hx : H1 (s1.heap.objs.size + 1) = none := I1.hok.fresh (Nat.le_succ _)
  have hdx : H1 s1.heap.objs.size = none := I1.hok.fresh (Nat.le_refl _)
  have ne : s1.heap.objs.size ≠ s1.heap.objs.size + 1 := Nat.ne_of_lt (Nat.lt_succ_self _)
  have I2 := Inv.made (C := C) I1
  have S2 : Sim X.K (upd H1 s1.heap.objs.size (.own (s1.heap.objs.size + 1))) m1 st1 := S1.grow (grow_upd hdx)
  have hx2 : (upd H1 s1.heap.objs.size (.own (s1.heap.objs.size + 1))) (s1.heap.objs.size + 1) = none := by rw [upd_ne (fun z => ne z.symm)]; exact hx
  have S3 := S2.new (p := s1.heap.objs.size + 1) (o := .ins C s1.heap.objs.size []) (ob := .ins C []) hx2 ⟨_, [], upd_same, rfl, .nil⟩
  have f2 : Fol m1 st1.length H1 (mup m1 st1.length (s1.heap.objs.size + 1)) (st1.length + 1) (upd (upd H1 s1.heap.objs.size (.own (s1.heap.objs.size + 1))) (s1.heap.objs.size + 1) (.ins C s1.heap.objs.size [])) := (Fol.same (grow_upd hdx)).trans (fol_new hx2)
  have hl2 : (st1 ++ [Ob.ins C []]).length = st1.length + 1 := by simp
  have r3 : RWs X.K (upd (upd H1 s1.heap.objs.size (.own (s1.heap.objs.size + 1))) (s1.heap.objs.size + 1) (.ins C s1.heap.objs.size [])) (mup m1 st1.length (s1.heap.objs.size + 1)) (st1 ++ [Ob.ins C []]).length (V.ref (s1.heap.objs.size + 1) :: vs) (.r st1.length :: ws) := by
    rw [hl2]
    exact .cons ⟨Nat.lt_succ_self _, by rw [mup_new]⟩ (r1.mv f2)
  have rv1 : Vals (V.ref (s1.heap.objs.size + 1) :: vs) (Value.ref (s1.heap.objs.size + 1) :: us) := .cons rfl rv
  have bd := hb _ (Value.ref (s1.heap.objs.size + 1) :: us) I2.kIn (by rw [List.append_nil]; exact hl)
  rw [List.append_nil] at bd
  refine wpAny_call (make_map (f := fa) I1.kIn Mc.makes Mc.init (beq_iff_eq.mp Mc.fn) (codeAny_mono (F.run _ X.stack _ _ ⟨Value.ref (s1.heap.objs.size + 1) :: us, []⟩ (Value.ref (s1.heap.objs.size + 1) :: us) _ _ _ _ (fun v H' => v = .non ∧ ∀ s', Inv X pins σ H' s' → Q (.ref (s1.heap.objs.size + 1)) s') (WE W σ) ((c.room.mono hk).make C us [])
    (fun z => nomatch z) (I2.env0.make C us []) bd rv1 S3 r3 (Rs.post_mono q (fun w st2 q2 v H2 m2 f3 S4 r4 => ?_) fun e st2 q2 c d H2 m2 f3 S4 r4 => ?_)) fun rr s2 hq => ?_))
  · split at q2
    · cases r4
      rw [hl2] at f3
      refine ⟨rfl, fun s' I' => q2 (.ref (s1.heap.objs.size + 1)) H2 m2 _ s' I' rfl ((f1.trans f2).trans f3) S4 ⟨Nat.lt_of_lt_of_le (Nat.lt_succ_self _) f3.le, by rw [f3.old _ (Nat.lt_succ_self _), mup_new]⟩⟩
    · exact q2.elim
  · rw [hl2] at f3
    exact q2 c d H2 m2 ((f1.trans f2).trans f3) S4 r4
  · cases rr with
    | error e => exact passAt tk σ pins _ _ e s2 I2 hq
    | ok fl =>
      cases fl with
      | ret u =>
        obtain ⟨v, H2, I3, rv2, ev, q3⟩ := I2.after hq
        subst ev
        exact ⟨rv2, q3 s2 I3⟩
      | next => exact False.elim hq
      | brk => exact False.elim hq
      | cont => exact False.elim hq
end
/-! ### methods as the top has written them -/
structure TopM (M : Md) (C : Addr) (x q : Str) (sf : Stmt) (ps : List Str) : Prop where
  at' : ∃ (f : Addr) (od an : Option Addr) (sl : Array (Option Value)) (oc kV dc pm cd ct : Value), Meth M.K C x f ∧ M.K.lookup f = some ⟨oc, od, .func (PySem.W.fnOf x q (defArgs sf) (defBody sf) (defScope sf) .none kV dc pm an cd ct), sl⟩ ∧
    PySem.W.codeIn M.K cd q = true ∧ Binds M.K (PySem.W.fnOf x q (defArgs sf) (defBody sf) (defScope sf) .none kV dc pm an cd ct) ps []
/-- a method, read -/
def HasM (M : Md) (g : Bool) (k : Nat) (C : Addr) (x : Str) (ps : List Str) (mf : List Wv → Sto → Rs Wv) : Prop := ∃ (f : Addr) (fd : FuncData), Meth M.K C x f ∧ Binds M.K fd ps [] ∧ Fnk M g k f fd ps mf
section
variable {M : Md} {X : Cx} {B : Tb} {k : Nat} {C : Addr} {x q : Str} {o e : Expr} {es : List Expr} {co : En → Sto → Rs Wv} {cs : En → Sto → Rs (List Wv)} {p pos apos : Pos} {ps : List Str} {mf : List Wv → Sto → Rs Wv}
theorem hasM_of {sf : Stmt} {cb : En → Sto → SR} {np nN : Nat} (T : TopM M C x q sf ps) (SC : FnScope B.N ps (defScope sf)) (hT : fnT B (defScope sf) = true) (hnp : ps.length = np) (hnN : B.N.length = nN) (hlq : B.lq = none)
    (hb : ∀ X : Cx, Cxt M X B k → DB X (defBody sf) cb) : HasM M B.gd (k + 1) C x ps (mkF np nN cb) := by
  obtain ⟨f, od, an, sl, oc, kV, dc, pm, cd, ct, h1, h2, h3, h4⟩ := T.at'
  exact ⟨f, _, h1, h4, fnk_of h2 h3 SC hT hnp hnN hb (fun q hq => by rw [hlq] at hq; cases hq)⟩
theorem dm_call {g : Bool} {j : Nat} {pl : Sem Bool} (c : Cxt M X B k) (F : HasM M g j C x ps mf) (hj : j ≤ k) (hc : Cls M.K C) (hgd : g = true → B.gd = true) (ho : DE X o co) (ha : DA X (e :: es) cs)
    (hst : starEach (e :: es) X.env = (false, eval e X.env) :: starEach es X.env := by rfl) (hpl : (backTo pos (starEach es X.env)).any (·.1) = false := by rfl)
    (ht : eval (.Call (.Attribute o x apos) (e :: es) [] pos) X.env = (do
      let ov ← eval o X.env
      standAt apos.atName
      let (f, first) ← holding [ov] (getMethod ov x pl)
      callWith pos f first (backTo pos (starEach (e :: es) X.env)) (backToKw pos (keywordEach [] X.env))) := by rfl) : DE X (.Call (.Attribute o x apos) (e :: es) [] pos) (eMth C x mf co cs) := by
  obtain ⟨f, fd, h1, h2, h3⟩ := F
  exact de_meth c (h3.mono hj) hc h1 h2 hgd ho ha hst hpl ht
theorem dm_call0 {g : Bool} {j : Nat} {pl : Sem Bool} (c : Cxt M X B k) (F : HasM M g j C x ps mf) (hj : j ≤ k) (hc : Cls M.K C) (hgd : g = true → B.gd = true) (ho : DE X o co)
    (ht : eval (.Call (.Attribute o x apos) [] [] pos) X.env = (do
      let ov ← eval o X.env
      standAt apos.atName
      let (f, first) ← holding [ov] (getMethod ov x pl)
      callWith pos f first (backTo pos (starEach [] X.env)) (backToKw pos (keywordEach [] X.env))) := by rfl) : DE X (.Call (.Attribute o x apos) [] [] pos) (eMth C x mf co aNil) := by
  obtain ⟨f, fd, h1, h2, h3⟩ := F
  exact de_meth0 c (h3.mono hj) hc h1 h2 hgd ho ht
/-- the class is made by its __init__ -/
theorem dm_make {j' : Nat} (c : Cxt M X B k) (F : HasM M false j' C "__init__" ps mf) (hj : j' + 1 ≤ k) (mk : PySem.W.makesIn M.K C = true) (kp : PySem.W.keepIn M.K (.ref C) = true) (j : Nat) (hg : B.gs[j]? = some x) (hm : M.mg x = some (.ref C)) (ha : DA X (e :: es) cs) (hdb : (x == ("__debug__" : Str)) = false := by decide)
    (he : starEach (e :: es) X.env = (false, eval e X.env) :: starEach es X.env := by rfl) (hpl : (backTo pos (starEach es X.env)).any (·.1) = false := by rfl) : DE X (.Call (.Name x p) (e :: es) [] pos) (eMake C mf cs) := by
  obtain ⟨f, fd, h1, h2, h3⟩ := F
  exact de_make c h3 hj ⟨mk, h1.at_, h1.fn, kp⟩ j hg hm h2 ha hdb he hpl
end
end
section
variable [Wtp] [Tbl]
/-! ## texts: split, join, upper -/
def isTx : Wv → Bool
  | .d (.str _) => true
  | _ => false
/-- a text's method with one argument -/
def eT1 (f : PyData → PyData → Option PyData) (co ce : En → Sto → Rs Wv) : En → Sto → Rs Wv := fun env st => (co env st).bind fun w st1 => if isTx w = true then (ce env st1).bind fun u st2 => look1 w st2 fun d => look1 u st2 fun e => ret1 (f d e) st2 else .no
/-- .. with none -/
def eT0 (f : PyData → Option PyData) (co : En → Sto → Rs Wv) : En → Sto → Rs Wv := fun env st => (co env st).bind fun w st1 => if isTx w = true then look1 w st1 fun d => ret1 (f d) st1 else .no
@[simp] theorem x_t1 (f : PyData → PyData → Option PyData) (co ce : En → Sto → Rs Wv) (env : En) (st : Sto) : eT1 f co ce env st = (co env st).bind fun w st1 => if isTx w = true then (ce env st1).bind fun u st2 => look1 w st2 fun d => look1 u st2 fun e => ret1 (f d e) st2 else .no := rfl
@[simp] theorem x_t0 (f : PyData → Option PyData) (co : En → Sto → Rs Wv) (env : En) (st : Sto) : eT0 f co env st = (co env st).bind fun w st1 => if isTx w = true then look1 w st1 fun d => ret1 (f d) st1 else .no := rfl
@[simp] theorem isTx_s (z : Str) : isTx (.d (.str z)) = true := rfl
theorem isTx_of {w : Wv} (h : isTx w = true) : ∃ a, w = .d (.str a) := by
  unfold isTx at h
  split at h
  · exact ⟨_, rfl⟩
  · cases h
section
variable {X : Cx} {W : WX} {σ : L2.St} {H : Hp} {Q : VK} {co ce : En → Sto → Rs Wv}
theorem te_t1 {f : PyData → PyData → Option PyData} {r : V → List V → Hp → VK → Prop} (h : tE X W (eT1 f co ce) σ H Q)
    (k : ∀ (x y : V) (H2 : Hp) (Z : Addr → Prop) (d e z : PyData), (∀ a, H2 a = none → Z a) → RT X.K H2 Z x d → RT X.K H2 Z y e → f d e = some z → rOut X.K H2 Z z Q → r x [y] H2 Q) : tM1 r (tE X W co) (tE X W ce) σ H Q := by
  obtain ⟨m, env, st, S, R, hp⟩ := h
  unfold eT1 at hp
  rw [Rs.post_bind] at hp
  refine ⟨m, env, st, S, R, Rs.post_mono hp (fun w st1 q v H1 m1 f1 S1 r1 => ?_) fun _ _ q => q⟩
  split at q
  · rename_i hw
    rw [Rs.post_bind] at q
    obtain ⟨a, rfl⟩ := isTx_of hw
    have rv : v = .str a := by
      cases (show Rp X.K H1 (Off m1 st1.length) v (.str a) from r1)
      rfl
    subst rv
    refine ⟨⟨a, rfl⟩, m1, env, st1, S1, R.mv f1, Rs.post_mono q (fun u st2 q2 y H2 m2 f2 S2 r2 => ?_) fun _ _ z => okX.tr f1 z⟩
    obtain ⟨d, e1, q2⟩ := look1_post q2
    obtain ⟨e, e2, q2⟩ := look1_post q2
    obtain ⟨z, e3, q3⟩ := ret1_post q2
    exact k _ _ _ _ d e z (fun a => S2.fresh) (look_rt S2 (r1.mv f2) e1) (look_rt S2 r2 e2) e3 (okE.out (f1.trans f2) S2 q3)
  · exact q.elim
theorem te_t0 {f : PyData → Option PyData} {r : V → List V → Hp → VK → Prop} (h : tE X W (eT0 f co) σ H Q)
    (k : ∀ (x : V) (H2 : Hp) (Z : Addr → Prop) (d z : PyData), (∀ a, H2 a = none → Z a) → RT X.K H2 Z x d → f d = some z → rOut X.K H2 Z z Q → r x [] H2 Q) : tM0 r (tE X W co) σ H Q := by
  obtain ⟨m, env, st, S, R, hp⟩ := h
  unfold eT0 at hp
  rw [Rs.post_bind] at hp
  refine ⟨m, env, st, S, R, Rs.post_mono hp (fun w st1 q v H1 m1 f1 S1 r1 => ?_) fun _ _ q => q⟩
  split at q
  · rename_i hw
    obtain ⟨a, rfl⟩ := isTx_of hw
    have rv : v = .str a := by
      cases (show Rp X.K H1 (Off m1 st1.length) v (.str a) from r1)
      rfl
    subst rv
    obtain ⟨d, e1, q2⟩ := look1_post q
    obtain ⟨z, e3, q3⟩ := ret1_post q2
    exact ⟨⟨a, rfl⟩, k _ _ _ d z (fun a => S1.fresh) (look_rt S1 r1 e1) e3 (okE.out f1 S1 q3)⟩
  · exact q.elim
end
theorem rpa_strs {K : Frg} {H : Hp} {Z : Addr → Prop} : ∀ ys : List Str, RpA K H Z (ys.map V.str) (ys.map PyData.str)
  | [] => .nil
  | y :: ys => .cons (.str y) (rpa_strs ys)
def strsOf : List PyData → Option (List Str)
  | [] => some []
  | .str a :: r => (strsOf r).map (a :: ·)
  | _ :: _ => none
@[simp] theorem strsOf_map : ∀ ys : List Str, strsOf (ys.map .str) = some ys
  | [] => rfl
  | y :: ys => by
    show (strsOf (ys.map .str)).map (y :: ·) = _
    rw [strsOf_map ys]; rfl
theorem strsOf_v {K : Frg} {H : Hp} {Z : Addr → Prop} : ∀ {vs : List V} {ds : List PyData} {ys : List Str}, RpA K H Z vs ds → strsOf ds = some ys → vs = ys.map V.str
  | _, _, _, .nil, e => by cases e; rfl
  | _, d :: ds, ys, .cons r1 r2, e => by
    cases d with
    | str a =>
      have e : (strsOf ds).map (a :: ·) = some ys := e
      cases q : strsOf ds with
      | none => rw [q] at e; cases e
      | some zs =>
        rw [q] at e
        cases e
        cases r1
        rw [strsOf_v r2 q]; rfl
    | _ => cases e
def splD : PyData → PyData → Option PyData
  | .str a, .str b => if (b.length == 0) = false ∧ a.length ≤ 1000000 then some (.list ((Txt.split a b).map .str)) else none
  | _, _ => none
def jnD : PyData → PyData → Option PyData
  | .str a, .list ds => match strsOf ds with
    | some ys => if (ys.map (·.length)).sum + ys.length * a.length ≤ 1000000 then some (.str (Txt.join a ys)) else none
    | none => none
  | .str a, .tuple ds => match strsOf ds with
    | some ys => if (ys.map (·.length)).sum + ys.length * a.length ≤ 1000000 then some (.str (Txt.join a ys)) else none
    | none => none
  | _, _ => none
def upD : PyData → Option PyData
  | .str a => if a.length ≤ 1000000 then some (.str (Txt.upper a)) else none
  | _ => none
section
variable {X : Cx} {o e : Expr} {co ce : En → Sto → Rs Wv} {apos pos : Pos}
theorem de_split (ho : DE X o co) (he : DE X e ce) (hs : starEach [e] X.env = [(false, eval e X.env)] := by rfl) (hbase : attributeBase o "split" X.env (eval o X.env) = eval o X.env := by rfl) (hline : (apos.endLine == pos.line) = true := by rfl) :
    DE X (.Call (.Attribute o "split" apos) [e] [] pos) (eT1 splD co ce) :=
  ⟨fun W tk => PE.imp (pe_split (ho.pe W tk) (he.pe W tk) hs hbase hline) fun σ H Q h => te_t1 h fun x y H2 Z d e z hz hd he hf hr => by
    unfold splD at hf
    split at hf
    · rename_i a b
      split at hf
      · rename_i hc
        cases hf
        have e1 := hd.str
        have e2 := he.str
        subst e1 e2
        refine ⟨a, b, rfl, rfl, hc.1, by rw [sizeLine_eq]; have := hc.2; omega, fun p hn => ?_⟩
        exact hr (.ref p) _ (grow_upd hn) (.lst (.inl ⟨upd_same, hz p hn⟩) (rpa_strs _))
      · cases hf
    · cases hf⟩
theorem de_join (ho : DE X o co) (he : DE X e ce) (hs : starEach [e] X.env = [(false, eval e X.env)] := by rfl) (hbase : attributeBase o "join" X.env (eval o X.env) = eval o X.env := by rfl) (hline : (apos.endLine == pos.line) = true := by rfl) :
    DE X (.Call (.Attribute o "join" apos) [e] [] pos) (eT1 jnD co ce) :=
  ⟨fun W tk => PE.imp (pe_join (ho.pe W tk) (he.pe W tk) hs hbase hline) fun σ H Q h => te_t1 h fun x y H2 Z d e z hz hd he hf hr => by
    unfold jnD at hf
    split at hf
    · rename_i a ds
      split at hf
      · rename_i ys es
        split at hf
        · rename_i hc
          cases hf
          have e1 := hd.str
          subst e1
          obtain ⟨p, vs, rfl, h1, h2⟩ := he.lst
          have e2 := strsOf_v h2 es
          subst e2
          exact ⟨a, p, ys, rfl, rfl, .inl h1.sq, by omega, hr (.str _) _ (fun _ _ h => h) (.str _)⟩
        · cases hf
      · cases hf
    · rename_i a ds
      split at hf
      · rename_i ys es
        split at hf
        · rename_i hc
          cases hf
          have e1 := hd.str
          subst e1
          obtain ⟨p, vs, rfl, h1, h2⟩ := he.tup
          have e2 := strsOf_v h2 es
          subst e2
          exact ⟨a, p, ys, rfl, rfl, .inr h1, by omega, hr (.str _) _ (fun _ _ h => h) (.str _)⟩
        · cases hf
      · cases hf
    · cases hf⟩
theorem de_upper (ho : DE X o co) (hbase : attributeBase o "upper" X.env (eval o X.env) = eval o X.env := by rfl) (hline : (apos.endLine == pos.line) = true := by rfl) :
    DE X (.Call (.Attribute o "upper" apos) [] [] pos) (eT0 upD co) :=
  ⟨fun W tk => PE.imp (pe_upper (ho.pe W tk) hbase hline) fun σ H Q h => te_t0 h fun x H2 Z d z hz hd hf hr => by
    unfold upD at hf
    split at hf
    · rename_i a
      split at hf
      · rename_i hc
        cases hf
        have e1 := hd.str
        subst e1
        exact ⟨a, rfl, rfl, by omega, hr (.str _) _ (fun _ _ h => h) (.str _)⟩
      · cases hf
    · cases hf⟩
end
/-! ## int(text), text * n -/
def intT : List PyData → Option PyData
  | [.str a] => match PySem.intText? a with
    | some n => if a.length ≤ 640 then some (.int n) else none
    | none => none
  | ds => intF ds
section
variable {X : Cx}
theorem c_intT : CallR X (.type "int") (rN X.K intT) := by
  intro pins s σ H xs us Q I r ⟨Z, ds, e, hz, hd, hf, ho⟩
  unfold intT at hf
  split at hf
  · rename_i a
    split at hf
    · rename_i n en
      split at hf
      · rename_i hl
        cases hf
        obtain ⟨v, rfl, h⟩ := rts1 hd
        have e1 := h.str
        subst e1
        exact call_int_str pins s σ H _ us Q I r ⟨a, n, rfl, en, hl, rout_here ho (.int _)⟩
      · cases hf
    · cases hf
  · exact c_int pins s σ H xs us Q I r ⟨Z, ds, e, hz, hd, hf, ho⟩
/-- a text so many times -/
def repS (x : Str) (k : Nat) : Str := ⟨(List.replicate k x.cps).foldl (· ++ ·) #[]⟩
def mulT : PyData → PyData → Option PyData
  | .str x, .int k => if 2 ≤ k ∧ k ≤ 100 ∧ 1 ≤ x.length ∧ x.length ≤ 1000 then some (.str (repS x k.toNat)) else none
  | d, e => mulD d e
theorem repS_len (x : Str) (k : Nat) : (repS x k).length = k * x.length := by
  have go : ∀ (k : Nat) (a : Array Nat), ((List.replicate k x.cps).foldl (· ++ ·) a).size = a.size + k * x.cps.size := fun k => by
    induction k with
    | zero => intro a; simp
    | succ k ih => intro a; rw [List.replicate_succ, List.foldl_cons, ih, Array.size_append, Nat.succ_mul]; omega
  have := go k #[]
  show ((List.replicate k x.cps).foldl (· ++ ·) #[]).size = k * x.cps.size
  rw [this]; simp
theorem o_mulT : OpR X (binaryOp .Mult) (rD X.K mulT) := by
  intro pins s σ H x y v u Q I rx ry ⟨Z, d, e, r, hz, hd, he, hf, ho⟩
  unfold mulT at hf
  split at hf
  · rename_i z k
    split at hf
    · rename_i hc
      cases hf
      have e1 := hd.str
      have e2 := he.int
      subst e1 e2
      obtain ⟨t, rfl⟩ := rx
      obtain ⟨t', rfl⟩ := ry
      obtain ⟨h1, h2, h3, h4⟩ := hc
      have k1 : ¬ k < 1 := by omega
      have kb : (k == 1 || z.length == 0) = false := by
        rw [Bool.or_eq_false_iff]
        exact ⟨by rw [beq_eq_false_iff_ne]; omega, by rw [beq_eq_false_iff_ne]; omega⟩
      have hn : z.length * k.toNat ≤ 1000 * 100 := Nat.mul_le_mul h4 (by omega)
      refine PySem.P.mul_str (by rw [decide_eq_false (by omega), decide_eq_false (by omega)]; rfl) (fun _ _ z1 => ?_) (fun _ _ => ?_) ?_
      · have : (z.length : Int) ≤ (2 ^ 63 - 1) / k := Int.le_ediv_of_mul_le (by omega) (by
          have := Int.mul_le_mul (show (z.length : Int) ≤ 1000 by omega) h2 (by omega) (by decide)
          omega)
        omega
      · show decide (z.length * k.toNat > sizeLine) = false
        exact decide_eq_false (by rw [sizeLine_eq]; omega)
      · rw [if_neg k1, if_neg (by rw [kb]; exact Bool.false_ne_true)]
        have hl := repS_len z k.toNat
        exact ⟨by rw [show (⟨(List.replicate k.toNat z.cps).foldl (· ++ ·) #[]⟩ : Str) = repS z k.toNat from rfl, hl, sizeLine_eq, Nat.mul_comm]; omega, .str _, H, I.tok _, ⟨_, rfl⟩, ho (.str _) H (fun _ _ h => h) (.str _)⟩
    · cases hf
  · exact o_mul pins s σ H x y v u Q I rx ry ⟨Z, d, e, r, hz, hd, he, hf, ho⟩
end
/-! ## l.index(text) of texts -/
def postS (b : Str) : List Str → Option Nat
  | [] => none
  | x :: r => if x = b then some 0 else (postS b r).map (· + 1)
def ixtS : PyData → List PyData → Option PyData
  | .list xs, [.str b] => match strsOf xs with
    | some bs => (postS b bs).map fun j => .int (j : Nat)
    | none => none
  | _, _ => none
theorem postS_at {b : Str} : ∀ {bs : List Str} {j : Nat}, postS b bs = some j → bs[j]? = some b ∧ ∀ m z, m < j → bs[m]? = some z → z ≠ b
  | [], _, h => by cases h
  | x :: r, j, h => by
    unfold postS at h
    split at h
    · cases h
      exact ⟨by simp [*], fun m z hm => absurd hm (Nat.not_lt_zero m)⟩
    · rename_i hx
      cases e : postS b r with
      | none => rw [e] at h; cases h
      | some i =>
        rw [e] at h
        cases h
        obtain ⟨h1, h2⟩ := postS_at e
        refine ⟨h1, fun m z hm hz => ?_⟩
        cases m with
        | zero => simp at hz; subst hz; exact hx
        | succ m => exact h2 m z (Nat.lt_of_succ_lt_succ (show m + 1 < i + 1 from hm)) (by simpa using hz)
section
variable {X : Cx} {o e : Expr} {es : List Expr} {co : En → Sto → Rs Wv} {cs : En → Sto → Rs (List Wv)} {apos pos : Pos}
theorem m_indexS : MtR X "list.index" (rMd X.K ixtS) := by
  intro pins s σ H x xs v us Q I rx rxs ⟨Z, d, ds, r, hz, hd, hds, hf, ho⟩
  unfold ixtS at hf
  split at hf
  · rename_i ys b
    split at hf
    · rename_i bs hbs
      cases e : postS b bs with
      | none => rw [e] at hf; cases hf
      | some j =>
        rw [e] at hf
        cases hf
        obtain ⟨a, vs, rfl, h1, h2⟩ := hd.lst
        obtain ⟨z, rfl, h'⟩ := rts1 hds
        have ez := h'.str
        subst ez
        have ev := strsOf_v h2 hbs
        subst ev
        obtain ⟨p1, p2⟩ := postS_at e
        refine mt_index pins s σ H _ _ v us Q I rx rxs ⟨a, bs.map V.str, .str b, j, .str b, rfl, rfl, h1.sq, rfl, by rw [List.all_map]; simp [Function.comp_def, flatV], by rw [List.getElem?_map, p1]; rfl, by simp [eqV], fun m z' hm hz' => ?_, rout_here ho (.int _)⟩
        rw [List.getElem?_map] at hz'
        cases q : bs[m]? with
        | none => rw [q] at hz'; cases hz'
        | some zb =>
          rw [q] at hz'
          cases hz'
          have := p2 m zb hm q
          simp [eqV, this]
    · cases hf
  · cases hf
theorem de_indexS (ho : DE X o co) (ha : DA X (e :: es) cs)
    (hbase : attributeBase o "index" X.env (eval o X.env) = eval o X.env := by rfl)
    (hfew : ((backTo pos (starEach (e :: es) X.env)).all (fun x => !x.1) && (backToKw pos (keywordEach [] X.env)).all (fun x => x.1.isSome)
      && decide ((e :: es).length + ([] : List Keyword).length + (if ([] : List Keyword).isEmpty then 0 else 1) < 30)) = true := by rfl)
    (hline : (apos.endLine == pos.line) = true := by rfl) (hs : starEach (e :: es) X.env = (false, eval e X.env) :: starEach es X.env := by rfl) (hplain : (backTo pos (starEach es X.env)).any (·.1) = false := by rfl) :
    DE X (.Call (.Attribute o "index" apos) (e :: es) [] pos) (eMd ixtS co cs) :=
  ⟨fun W tk => PE.imp (pe_bm PySem.F.plainAttrs_list PySem.F.slot_list_index PySem.F.type_list_index m_indexS (ho.pe W tk) (ha.pa W tk) hbase hfew hline hs hplain) fun σ H Q => te_md ixtS⟩
end
def clsMs : Stmt → Nat → Stmt
  | .ClassDef (body := b) .., j => b.getD j (.Pass ⟨0, 0, 0, 0⟩)
  | _, _ => .Pass ⟨0, 0, 0, 0⟩
end
section
variable [Tbl] [FnA]
def topS (i : Nat) : Stmt := PySem.Challenge.pw_bentstones_k91_paths_written_and_read.main.body.getD i (.Pass ⟨0, 0, 0, 0⟩)
def w_FIGURES : PyData := (.str "0123456789")
def w_MOST_FAR : PyData := (.int 1000)
def w_MOST_FIGURES : PyData := (.int 30)
def w_MOST_LEGS : PyData := (.int 6)
def w_MOST_LONG : PyData := (.int 60)
def w_WAYS_paths : PyData := (.tuple [(.str "east"), (.str "north"), (.str "west"), (.str "south")])
def w_WAYS_texts : PyData := (.tuple [(.str "east"), (.str "north"), (.str "west"), (.str "south")])
def y_WAYS_paths : List Str := ["east", "north", "west", "south"]
def fldX : List (Str × List Str) := [("NoStrip", ["leg"]), ("TooGreat", ["many", "most"]), ("Short", ["shade", "batch", "long", "by"]), ("Over", ["row", "stone", "other", "second"]), ("NoText", ["word"])]
def ysX : List Str := ["Missing", "NoDrawing", "NoFit", "NoJoints", "NoLaying", "NoLine", "NoLongs", "NoLots", "NoNumber", "NoOrder", "NoPanel", "NoPath", "NoPlace", "NoRow", "NoShift", "NoSpan", "NoStock", "NoStone", "NoStrip", "NoText", "NoWants", "NoWidth", "Nothing", "Over", "Short", "TooGreat"]
@[reducible] instance theW : Wtp := ⟨[(.tuple [(.str "east"), (.str "north"), (.str "west"), (.str "south")])], true⟩
structure Hs (M : Md) : Prop where
  sm : SysM M.base
  z_ArithmeticError : M.mg "ArithmeticError" = none
  z_LookupError : M.mg "LookupError" = none
  z_RuntimeError : M.mg "RuntimeError" = none
  z_TypeError : M.mg "TypeError" = none
  z_ValueError : M.mg "ValueError" = none
  z_all : M.mg "all" = none
  z_bool : M.mg "bool" = none
  z_int : M.mg "int" = none
  z_isinstance : M.mg "isinstance" = none
  z_len : M.mg "len" = none
  z_list : M.mg "list" = none
  z_max : M.mg "max" = none
  z_min : M.mg "min" = none
  z_range : M.mg "range" = none
  z_repr : M.mg "repr" = none
  z_str : M.mg "str" = none
  z_tuple : M.mg "tuple" = none
  z_zip : M.mg "zip" = none
  g_FIGURES : Gw M "FIGURES" w_FIGURES
  g_MOST_FAR : Gw M "MOST_FAR" w_MOST_FAR
  g_MOST_FIGURES : Gw M "MOST_FIGURES" w_MOST_FIGURES
  g_MOST_LEGS : Gw M "MOST_LEGS" w_MOST_LEGS
  g_MOST_LONG : Gw M "MOST_LONG" w_MOST_LONG
  g_WAYS_paths : Gw M "WAYS_paths" w_WAYS_paths
  g_WAYS_texts : Gw M "WAYS_texts" w_WAYS_texts
  i_WAYS_paths : Gix M "WAYS_paths" y_WAYS_paths
  a_Words : M.mg "Words" = some (.ref (FnA.a "Words"))
  cl_Words : Cls M.K (FnA.a "Words")
  mk_Words : PySem.W.makesIn M.K (FnA.a "Words") = true
  kp_Words : PySem.W.keepIn M.K (.ref (FnA.a "Words")) = true
  na_Words_here : NoAttr M.K (FnA.a "Words") "here"
  na_Words_words : NoAttr M.K (FnA.a "Words") "words"
  e_StoneError : ∃ C, M.mg "StoneError" = some (.ref C)
  f_NoText : ∃ C, XfF M "NoText" C ["word"]
  e_NoPath : ∃ C, XcA M "StoneError" ysX fldX "NoPath" C
  e_NoText : ∃ C, XcA M "StoneError" ysX fldX "NoText" C
theorem q_FIGURES {M : Md} {X : Cx} {B : Tb} {k : Nat} {p : Pos} (T : Hs M) (c : Cxt M X B k) (j : Nat) (h : B.gs[j]? = some "FIGURES") : DE X (.Name "FIGURES" p) (eK w_FIGURES) := de_gw c j h T.g_FIGURES
theorem q_MOST_FAR {M : Md} {X : Cx} {B : Tb} {k : Nat} {p : Pos} (T : Hs M) (c : Cxt M X B k) (j : Nat) (h : B.gs[j]? = some "MOST_FAR") : DE X (.Name "MOST_FAR" p) (eK w_MOST_FAR) := de_gw c j h T.g_MOST_FAR
theorem q_MOST_FIGURES {M : Md} {X : Cx} {B : Tb} {k : Nat} {p : Pos} (T : Hs M) (c : Cxt M X B k) (j : Nat) (h : B.gs[j]? = some "MOST_FIGURES") : DE X (.Name "MOST_FIGURES" p) (eK w_MOST_FIGURES) := de_gw c j h T.g_MOST_FIGURES
theorem q_MOST_LEGS {M : Md} {X : Cx} {B : Tb} {k : Nat} {p : Pos} (T : Hs M) (c : Cxt M X B k) (j : Nat) (h : B.gs[j]? = some "MOST_LEGS") : DE X (.Name "MOST_LEGS" p) (eK w_MOST_LEGS) := de_gw c j h T.g_MOST_LEGS
theorem q_MOST_LONG {M : Md} {X : Cx} {B : Tb} {k : Nat} {p : Pos} (T : Hs M) (c : Cxt M X B k) (j : Nat) (h : B.gs[j]? = some "MOST_LONG") : DE X (.Name "MOST_LONG" p) (eK w_MOST_LONG) := de_gw c j h T.g_MOST_LONG
theorem q_WAYS_paths {M : Md} {X : Cx} {B : Tb} {k : Nat} {p : Pos} (T : Hs M) (c : Cxt M X B k) (j : Nat) (h : B.gs[j]? = some "WAYS_paths") : DE X (.Name "WAYS_paths" p) (eK w_WAYS_paths) := de_gw c j h T.g_WAYS_paths
theorem q_WAYS_texts {M : Md} {X : Cx} {B : Tb} {k : Nat} {p : Pos} (T : Hs M) (c : Cxt M X B k) (j : Nat) (h : B.gs[j]? = some "WAYS_texts") : DE X (.Name "WAYS_texts" p) (eK w_WAYS_texts) := de_gw c j h T.g_WAYS_texts
theorem ix_WAYS_paths {M : Md} {X : Cx} {B : Tb} {k : Nat} {p1 apos pos : Pos} {e : Expr} {cs : En → Sto → Rs (List Wv)} (T : Hs M) (c : Cxt M X B k) (j : Nat) (h : B.gs[j]? = some "WAYS_paths") (ha : DA X [e] cs)
    (hfew : ((backTo pos (starEach [e] X.env)).all (fun x => !x.1) && (backToKw pos (keywordEach [] X.env)).all (fun x => x.1.isSome)
      && decide ([e].length + ([] : List Keyword).length + (if ([] : List Keyword).isEmpty then 0 else 1) < 30)) = true := by rfl)
    (hline : (apos.endLine == pos.line) = true := by rfl) (hs : starEach [e] X.env = (false, eval e X.env) :: starEach [] X.env := by rfl) : DE X (.Call (.Attribute (.Name "WAYS_paths" p1) "index" apos) [e] [] pos) (eGix y_WAYS_paths cs) := de_gix c j h T.i_WAYS_paths ha hfew hline hs
abbrev s__law_pen_of : Stmt := topS 52
def B__law_pen_of : Tb := ⟨["_law_cell", "_law_left"], [0, 1], [0, 1], [0, 1], ["max", "int"], [], true, false, none⟩
theorem sc__law_pen_of : FnScope B__law_pen_of.N ["_law_cell"] (defScope s__law_pen_of) := ⟨rfl, rfl, rfl, by decide +kernel, rfl, by decide +kernel, by decide +kernel⟩
theorem t__law_pen_of : fnT B__law_pen_of (defScope s__law_pen_of) = true := by decide +kernel
noncomputable def d__law_pen_of : En → Sto → SR :=
    (sSeq (sSet 1 (eOpN max2F (aCons (eVar 0) (aCons (eOp2 subD (eK (.int 0)) (eVar 0)) aNil))))
    (sRet (eNewL (aCons (eVar 1) (aCons (eOpN intF (aCons (eOp2 geD (eVar 1) (eOp2 powD (eK (.int 10)) (eK (.int 18)))) aNil)) (aCons (eOp2 modD (eVar 1) (eK (.int 1000003))) aNil))))))
noncomputable def m__law_pen_of : List Wv → Sto → Rs Wv := mkF 1 2 d__law_pen_of
theorem b__law_pen_of {M : Md} {X : Cx} (T : Hs M)  (c : Cxt M X B__law_pen_of 0) : DB X (defBody s__law_pen_of) d__law_pen_of :=
    (db_cons (ds_set c 1 rfl (by decide) (de_callB (id := "max") c (c_max2 c.calm) 0 rfl T.z_max (by decide +kernel) (da_cons (de_var c 0 rfl (by decide)) (da_cons (de_bin o_sub de_int (de_var c 0 rfl (by decide))) da_nil))))
    (db_one (ds_ret (de_newl (da_cons (de_var c 1 rfl (by decide)) (da_cons (de_callT (T := "int") c c_int 1 rfl T.z_int (by decide +kernel) (da_cons (de_cmp (o_ge c.roomH) (de_var c 1 rfl (by decide)) (de_bin o_pow de_int de_int) (nomark _)) da_nil)) (da_cons (de_bin o_mod (de_var c 1 rfl (by decide)) de_int) da_nil)))))))
theorem h__law_pen_of {M : Md} (T : Hs M)  (F : TopFn M "_law_pen_of" s__law_pen_of ["_law_cell"]) : Has M false 1 "_law_pen_of" ["_law_cell"] m__law_pen_of := has_of F sc__law_pen_of t__law_pen_of rfl rfl (fun X c => b__law_pen_of T  c)
abbrev s__law_next : Stmt := topS 51
def B__law_next : Tb := ⟨["_law_seed"], [0], [0], [0], [], [], true, false, none⟩
theorem sc__law_next : FnScope B__law_next.N ["_law_seed"] (defScope s__law_next) := ⟨rfl, rfl, rfl, by decide +kernel, rfl, by decide +kernel, by decide +kernel⟩
theorem t__law_next : fnT B__law_next (defScope s__law_next) = true := by decide +kernel
noncomputable def d__law_next : En → Sto → SR :=
    (sSeq (sSet 0 (eOp2 modD (eOp2 addD (eVar 0) (eK (.int 7919))) (eK (.int 2147483647))))
    (sRet (eOp2 modD (eOp2 addD (eOp2 addD (eOp2 mulD (eVar 0) (eVar 0)) (eOp2 mulD (eK (.int 48271)) (eVar 0))) (eK (.int 12345))) (eK (.int 2147483629)))))
noncomputable def m__law_next : List Wv → Sto → Rs Wv := mkF 1 1 d__law_next
theorem b__law_next {M : Md} {X : Cx} (T : Hs M)  (c : Cxt M X B__law_next 0) : DB X (defBody s__law_next) d__law_next :=
    (db_cons (ds_set c 0 rfl (by decide) (de_bin o_mod (de_bin o_add (de_var c 0 rfl (by decide)) de_int) de_int))
    (db_one (ds_ret (de_bin o_mod (de_bin o_add (de_bin o_add (de_bin o_mul (de_var c 0 rfl (by decide)) (de_var c 0 rfl (by decide))) (de_bin o_mul de_int (de_var c 0 rfl (by decide)))) de_int) de_int))))
theorem h__law_next {M : Md} (T : Hs M)  (F : TopFn M "_law_next" s__law_next ["_law_seed"]) : Has M false 1 "_law_next" ["_law_seed"] m__law_next := has_of F sc__law_next t__law_next rfl rfl (fun X c => b__law_next T  c)
abbrev s__law_draw : Stmt := topS 53
def B__law_draw : Tb := ⟨["_law_pen", "_law_many", "_law_found"], [0, 1, 2], [0, 1, 2], [0, 1, 2], ["_law_next"], [], true, false, none⟩
theorem sc__law_draw : FnScope B__law_draw.N ["_law_pen", "_law_many"] (defScope s__law_draw) := ⟨rfl, rfl, rfl, by decide +kernel, rfl, by decide +kernel, by decide +kernel⟩
theorem t__law_draw : fnT B__law_draw (defScope s__law_draw) = true := by decide +kernel
noncomputable def d__law_draw : En → Sto → SR :=
    (sSeq (sIf (tAnd2 (tBl (eOp2 eqD (eOp2 ixD (eVar 0) (eK (.int 1))) (eK (.int 1)))) (tBl (eOp2 gtD (eOp2 ixD (eVar 0) (eK (.int 0))) (eK (.int 0))))) (sSeq (sSet 2 (eOp2 modD (eOp2 ixD (eVar 0) (eK (.int 0))) (eVar 1)))
    (sSeq (sIx (eVar 0) (eK (.int 0)) (eOp2 divD (eOp2 ixD (eVar 0) (eK (.int 0))) (eVar 1)))
    (sRet (eVar 2)))) sNil)
    (sSeq (sIx (eVar 0) (eK (.int 2)) (eCall m__law_next (aCons (eOp2 addD (eCall m__law_next (aCons (eOp2 ixD (eVar 0) (eK (.int 2))) aNil)) (eK (.int 7))) aNil)))
    (sRet (eOp2 modD (eOp2 divD (eOp2 ixD (eVar 0) (eK (.int 2))) (eK (.int 64))) (eVar 1)))))
noncomputable def m__law_draw : List Wv → Sto → Rs Wv := mkF 2 3 d__law_draw
theorem b__law_draw {M : Md} {X : Cx} (T : Hs M) (h__law_next : Has M false 1 "_law_next" ["_law_seed"] m__law_next) (c : Cxt M X B__law_draw 1) : DB X (defBody s__law_draw) d__law_draw :=
    (db_cons (ds_if (DW.dt (dw_and (dt_cmp (o_eq c.roomH) (de_ix c.roomH (de_var c 0 rfl (by decide)) de_int (fun _ _ => rfl)) de_int (nomark _)) (dw_and1 (dt_cmp (o_gt c.roomH) (de_ix c.roomH (de_var c 0 rfl (by decide)) de_int (fun _ _ => rfl)) de_int (nomark _))))) (db_cons (ds_set c 2 rfl (by decide) (de_bin o_mod (de_ix c.roomH (de_var c 0 rfl (by decide)) de_int (fun _ _ => rfl)) (de_var c 1 rfl (by decide))))
    (db_cons (ds_setix c (de_var c 0 rfl (by decide)) de_int (de_bin o_div (de_ix c.roomH (de_var c 0 rfl (by decide)) de_int (fun _ _ => rfl)) (de_var c 1 rfl (by decide))))
    (db_one (ds_ret (de_var c 2 rfl (by decide)))))) db_nil)
    (db_cons (ds_setix c (de_var c 0 rfl (by decide)) de_int (de_fn c (h__law_next.up (by decide)) 0 rfl (da_cons (de_bin o_add (de_fn c (h__law_next.up (by decide)) 0 rfl (da_cons (de_ix c.roomH (de_var c 0 rfl (by decide)) de_int (fun _ _ => rfl)) da_nil)) de_int) da_nil)))
    (db_one (ds_ret (de_bin o_mod (de_bin o_div (de_ix c.roomH (de_var c 0 rfl (by decide)) de_int (fun _ _ => rfl)) de_int) (de_var c 1 rfl (by decide)))))))
theorem h__law_draw {M : Md} (T : Hs M) (h__law_next : Has M false 1 "_law_next" ["_law_seed"] m__law_next) (F : TopFn M "_law_draw" s__law_draw ["_law_pen", "_law_many"]) : Has M false 2 "_law_draw" ["_law_pen", "_law_many"] m__law_draw := has_of F sc__law_draw t__law_draw rfl rfl (fun X c => b__law_draw T h__law_next c)
abbrev s__law_path : Stmt := topS 55
def B__law_path : Tb := ⟨["_law_pen", "_law_least", "_law_ways", "_law_way", "_law_legs", "_law_turn", "_law_far"], [0, 1, 2, 3, 4, 5, 6], [0, 1, 2, 3, 4, 5, 6], [0, 1, 2, 3, 4, 5, 6], ["_law_draw", "range", "tuple"], [], true, false, none⟩
theorem sc__law_path : FnScope B__law_path.N ["_law_pen", "_law_least"] (defScope s__law_path) := ⟨rfl, rfl, rfl, by decide +kernel, rfl, by decide +kernel, by decide +kernel⟩
theorem t__law_path : fnT B__law_path (defScope s__law_path) = true := by decide +kernel
noncomputable def d__law_path_l1 : En → Sto → SR :=
    (sWp [5] (sSeq (sExp (eM appW (eVar 4) (aCons (eTup (aCons (eOp2 ixD (eVar 2) (eVar 3)) (aCons (eOp2 addD (eVar 1) (eCall m__law_draw (aCons (eVar 0) (aCons (eOp2 subD (eK (.int 61)) (eVar 1)) aNil)))) aNil))) aNil)))
    (sSet 3 (eOp2 modD (eOp2 addD (eVar 3) (eOp2 ixD (eLst (aCons (eK (.int 1)) (aCons (eK (.int 3)) aNil))) (eCall m__law_draw (aCons (eVar 0) (aCons (eK (.int 2)) aNil))))) (eK (.int 4))))))
noncomputable def d__law_path : En → Sto → SR :=
    (sSeq (sPar3 2 3 4 (aCons (eLst (aCons (eK (.str "east")) (aCons (eK (.str "north")) (aCons (eK (.str "west")) (aCons (eK (.str "south")) aNil))))) (aCons (eCall m__law_draw (aCons (eVar 0) (aCons (eK (.int 4)) aNil))) (aCons (eNewL aNil) aNil))))
    (sSeq (sFor (cRg1 (aCons (eOp2 addD (eK (.int 1)) (eCall m__law_draw (aCons (eVar 0) (aCons (eK (.int 6)) aNil)))) aNil)) (gN 5) d__law_path_l1)
    (sSeq (sSet 6 (eOp2 ixD (eLst (aCons (eK (.int 9)) (aCons (eK (.int 2001)) aNil))) (eCall m__law_draw (aCons (eVar 0) (aCons (eK (.int 2)) aNil)))))
    (sRet (eTup (aCons (eOp2 subD (eCall m__law_draw (aCons (eVar 0) (aCons (eVar 6) aNil))) (eOp2 divD (eVar 6) (eK (.int 2)))) (aCons (eOp2 subD (eCall m__law_draw (aCons (eVar 0) (aCons (eVar 6) aNil))) (eOp2 divD (eVar 6) (eK (.int 2)))) (aCons (eOpN tupF (aCons (eVar 4) aNil)) aNil))))))))
noncomputable def m__law_path : List Wv → Sto → Rs Wv := mkF 2 7 d__law_path
theorem b__law_path {M : Md} {X : Cx} (T : Hs M) (h__law_draw : Has M false 2 "_law_draw" ["_law_pen", "_law_many"] m__law_draw) (c : Cxt M X B__law_path 2) : DB X (defBody s__law_path) d__law_path :=
    (db_cons (ds_par3 c 2 3 4 rfl rfl rfl (by decide) (by decide) (by decide) (isLoc c (i := 2) (by decide) rfl) (isLoc c (i := 3) (by decide) rfl) (isLoc c (i := 4) (by decide) rfl) (da_cons (de_lst (da_cons de_str (da_cons de_str (da_cons de_str (da_cons de_str da_nil))))) (da_cons (de_fn c (h__law_draw.up (by decide)) 0 rfl (da_cons (de_var c 0 rfl (by decide)) (da_cons de_int da_nil))) (da_cons (de_newl da_nil) da_nil))) (sw3 c (i := 2) (j := 3) (l := 4) rfl rfl rfl (by decide) (by decide) (by decide) (by decide +kernel) rfl rfl rfl (by intro _ _ h; cases h) (by intro _ _ h; cases h) (by intro _ _ h; cases h) rfl rfl))
    (db_cons (ds_for c [5] (di_range1 c 1 rfl T.z_range (da_cons (de_bin o_add de_int (de_fn c (h__law_draw.up (by decide)) 0 rfl (da_cons (de_var c 0 rfl (by decide)) (da_cons de_int da_nil)))) da_nil)) (dg_name c [5] 5 rfl (by decide) (by decide))
    (db_wp [5] (db_cons (ds_exp (de_append (de_var c 4 rfl (by decide)) (da_cons (de_tup (da_cons (de_ix c.roomH (de_var c 2 rfl (by decide)) (de_var c 3 rfl (by decide)) (fun _ _ => rfl)) (da_cons (de_bin o_add (de_var c 1 rfl (by decide)) (de_fn c (h__law_draw.up (by decide)) 0 rfl (da_cons (de_var c 0 rfl (by decide)) (da_cons (de_bin o_sub de_int (de_var c 1 rfl (by decide))) da_nil)))) da_nil))) da_nil)))
    (db_one (ds_set c 3 rfl (by decide) (de_bin o_mod (de_bin o_add (de_var c 3 rfl (by decide)) (de_ix c.roomH (de_lst (da_cons de_int (da_cons de_int da_nil))) (de_fn c (h__law_draw.up (by decide)) 0 rfl (da_cons (de_var c 0 rfl (by decide)) (da_cons de_int da_nil))) (fun _ _ => rfl))) de_int))))))
    (db_cons (ds_set c 6 rfl (by decide) (de_ix c.roomH (de_lst (da_cons de_int (da_cons de_int da_nil))) (de_fn c (h__law_draw.up (by decide)) 0 rfl (da_cons (de_var c 0 rfl (by decide)) (da_cons de_int da_nil))) (fun _ _ => rfl)))
    (db_one (ds_ret (de_tup (da_cons (de_bin o_sub (de_fn c (h__law_draw.up (by decide)) 0 rfl (da_cons (de_var c 0 rfl (by decide)) (da_cons (de_var c 6 rfl (by decide)) da_nil))) (de_bin o_div (de_var c 6 rfl (by decide)) de_int)) (da_cons (de_bin o_sub (de_fn c (h__law_draw.up (by decide)) 0 rfl (da_cons (de_var c 0 rfl (by decide)) (da_cons (de_var c 6 rfl (by decide)) da_nil))) (de_bin o_div (de_var c 6 rfl (by decide)) de_int)) (da_cons (de_callT (T := "tuple") c c_tup 2 rfl T.z_tuple (by decide +kernel) (da_cons (de_var c 4 rfl (by decide)) da_nil)) da_nil)))))))))
theorem h__law_path {M : Md} (T : Hs M) (h__law_draw : Has M false 2 "_law_draw" ["_law_pen", "_law_many"] m__law_draw) (F : TopFn M "_law_path" s__law_path ["_law_pen", "_law_least"]) : Has M false 3 "_law_path" ["_law_pen", "_law_least"] m__law_path := has_of F sc__law_path t__law_path rfl rfl (fun X c => b__law_path T h__law_draw c)
abbrev s__law_path_text : Stmt := topS 56
def B__law_path_text : Tb := ⟨["_law_path_here", ".0", "_law_way", "_law_long"], [0], [0], [0], ["str"], [], true, false, none⟩
theorem sc__law_path_text : FnScope B__law_path_text.N ["_law_path_here"] (defScope s__law_path_text) := ⟨rfl, rfl, rfl, by decide +kernel, rfl, by decide +kernel, by decide +kernel⟩
theorem t__law_path_text : fnT B__law_path_text (defScope s__law_path_text) = true := by decide +kernel
noncomputable def d__law_path_text : En → Sto → SR :=
    (sRet (eT1 jnD (eK (.str " ")) (eOp2 addD (eLst (aCons (eOpN strF (aCons (eOp2 ixD (eVar 0) (eK (.int 0))) aNil)) (aCons (eOpN strF (aCons (eOp2 ixD (eVar 0) (eK (.int 1))) aNil)) aNil))) (eLc (cSeq (eOp2 ixD (eVar 0) (eK (.int 2)))) (gTp (gCn (gN 2) (gCn (gN 3) gNl))) tYs (eOp2 addD (eOp2 addD (eVar 2) (eK (.str " "))) (eOpN strF (aCons (eVar 3) aNil))) [1, 2, 3]))))
noncomputable def m__law_path_text : List Wv → Sto → Rs Wv := mkF 1 4 d__law_path_text
theorem b__law_path_text {M : Md} {X : Cx} (T : Hs M)  (c : Cxt M X B__law_path_text 0) : DB X (defBody s__law_path_text) d__law_path_text :=
    (db_one (ds_ret (de_join de_str (de_bin o_add (de_lst (da_cons (de_callT (T := "str") c c_str 0 rfl T.z_str (by decide +kernel) (da_cons (de_ix c.roomH (de_var c 0 rfl (by decide)) de_int (fun _ _ => rfl)) da_nil)) (da_cons (de_callT (T := "str") c c_str 0 rfl T.z_str (by decide +kernel) (da_cons (de_ix c.roomH (de_var c 0 rfl (by decide)) de_int (fun _ _ => rfl)) da_nil)) da_nil))) (de_lc c (lc_ok c [(".0", 1), ("_law_way", 2), ("_law_long", 3)] [1, 2, 3] [1, 2, 3] ["str"] [] (by decide +kernel) (di_seq (de_ix c.roomH (de_var c 0 rfl (by decide)) de_int (fun _ _ => rfl))) (by decide) (fun _ c1 => (dg_tup c1 (dgs_cons (dg_name c1 [1, 2, 3] 2 rfl (by decide) (by decide)) (dgs_cons (dg_name c1 [1, 2, 3] 3 rfl (by decide) (by decide)) (dgs_nil [1, 2, 3]))) (asks_cons (asks_cons asks_nil)))) (fun _ c1 => dts_nil) (fun _ c1 => (de_bin o_add (de_bin o_add (de_var c1 2 rfl (by decide)) de_str) (de_callT (T := "str") c1 c_str 0 rfl T.z_str (by decide +kernel) (da_cons (de_var c1 3 rfl (by decide)) da_nil))))))))))
theorem h__law_path_text {M : Md} (T : Hs M)  (F : TopFn M "_law_path_text" s__law_path_text ["_law_path_here"]) : Has M false 1 "_law_path_text" ["_law_path_here"] m__law_path_text := has_of F sc__law_path_text t__law_path_text rfl rfl (fun X c => b__law_path_text T  c)
abbrev s__law_cell_at : Stmt := topS 50
def B__law_cell_at : Tb := ⟨["_law_script", "_law_k"], [0, 1], [0, 1], [0, 1], ["len"], [], true, false, none⟩
theorem sc__law_cell_at : FnScope B__law_cell_at.N ["_law_script", "_law_k"] (defScope s__law_cell_at) := ⟨rfl, rfl, rfl, by decide +kernel, rfl, by decide +kernel, by decide +kernel⟩
theorem t__law_cell_at : fnT B__law_cell_at (defScope s__law_cell_at) = true := by decide +kernel
noncomputable def d__law_cell_at : En → Sto → SR :=
    (sSeq (sIf (tBl (eOp2 ltD (eVar 1) (eOpN lenF (aCons (eVar 0) aNil)))) (sRet (eOp2 ixD (eVar 0) (eVar 1))) sNil)
    (sRet (eK (.int 0))))
noncomputable def m__law_cell_at : List Wv → Sto → Rs Wv := mkF 2 2 d__law_cell_at
theorem b__law_cell_at {M : Md} {X : Cx} (T : Hs M)  (c : Cxt M X B__law_cell_at 0) : DB X (defBody s__law_cell_at) d__law_cell_at :=
    (db_cons (ds_if (dt_cmp (o_lt c.roomH) (de_var c 1 rfl (by decide)) (de_callB (id := "len") c c_len 0 rfl T.z_len (by decide +kernel) (da_cons (de_var c 0 rfl (by decide)) da_nil)) (nomark _)) (db_one (ds_ret (de_ix c.roomH (de_var c 0 rfl (by decide)) (de_var c 1 rfl (by decide)) (fun _ _ => rfl)))) db_nil)
    (db_one (ds_ret de_int)))
theorem h__law_cell_at {M : Md} (T : Hs M)  (F : TopFn M "_law_cell_at" s__law_cell_at ["_law_script", "_law_k"]) : Has M false 1 "_law_cell_at" ["_law_script", "_law_k"] m__law_cell_at := has_of F sc__law_cell_at t__law_cell_at rfl rfl (fun X c => b__law_cell_at T  c)
abbrev s__law_odd : Stmt := topS 54
def B__law_odd : Tb := ⟨["_law_pen", "_law_some"], [0, 1], [0, 1], [0, 1], ["_law_draw", "len"], [], true, false, none⟩
theorem sc__law_odd : FnScope B__law_odd.N ["_law_pen"] (defScope s__law_odd) := ⟨rfl, rfl, rfl, by decide +kernel, rfl, by decide +kernel, by decide +kernel⟩
theorem t__law_odd : fnT B__law_odd (defScope s__law_odd) = true := by decide +kernel
noncomputable def d__law_odd : En → Sto → SR :=
    (sSeq (sSet 1 (eLst (aCons (eK .none) (aCons (eK (.bool true)) (aCons (eK (.bool false)) (aCons (eOp1 negD (eK (.int 1))) (aCons (eK (.int 0)) (aCons (eK (.int 1)) (aCons (eK (.int 21)) (aCons (eK (.int 100)) (aCons (eOp2 powD (eK (.int 10)) (eK (.int 29))) (aCons (eK (.str "")) (aCons (eK (.str "1")) (aCons (eK (.str "a")) (aCons (eLst aNil) (aCons (eTup aNil) (aCons eDic0 (aCons (eTup (aCons (eK (.int 1)) aNil)) (aCons (eTup (aCons (eK (.int 1)) (aCons (eK (.int 0)) aNil))) (aCons (eTup (aCons (eK .none) aNil)) (aCons (eLst (aCons (eK (.int 1)) aNil)) aNil)))))))))))))))))))))
    (sRet (eOp2 ixD (eVar 1) (eCall m__law_draw (aCons (eVar 0) (aCons (eOpN lenF (aCons (eVar 1) aNil)) aNil))))))
noncomputable def m__law_odd : List Wv → Sto → Rs Wv := mkF 1 2 d__law_odd
theorem b__law_odd {M : Md} {X : Cx} (T : Hs M) (h__law_draw : Has M false 2 "_law_draw" ["_law_pen", "_law_many"] m__law_draw) (c : Cxt M X B__law_odd 2) : DB X (defBody s__law_odd) d__law_odd :=
    (db_cons (ds_set c 1 rfl (by decide) (de_lst (da_cons de_non (da_cons de_bl (da_cons de_bl (da_cons (de_un o_neg de_int) (da_cons de_int (da_cons de_int (da_cons de_int (da_cons de_int (da_cons (de_bin o_pow de_int de_int) (da_cons de_str (da_cons de_str (da_cons de_str (da_cons (de_lst da_nil) (da_cons (de_tup da_nil) (da_cons de_dic0 (da_cons (de_tup (da_cons de_int da_nil)) (da_cons (de_tup (da_cons de_int (da_cons de_int da_nil))) (da_cons (de_tup (da_cons de_non da_nil)) (da_cons (de_lst (da_cons de_int da_nil)) da_nil)))))))))))))))))))))
    (db_one (ds_ret (de_ix c.roomH (de_var c 1 rfl (by decide)) (de_fn c (h__law_draw.up (by decide)) 0 rfl (da_cons (de_var c 0 rfl (by decide)) (da_cons (de_callB (id := "len") c c_len 1 rfl T.z_len (by decide +kernel) (da_cons (de_var c 1 rfl (by decide)) da_nil)) da_nil))) (fun _ _ => rfl)))))
theorem h__law_odd {M : Md} (T : Hs M) (h__law_draw : Has M false 2 "_law_draw" ["_law_pen", "_law_many"] m__law_draw) (F : TopFn M "_law_odd" s__law_odd ["_law_pen"]) : Has M false 3 "_law_odd" ["_law_pen"] m__law_odd := has_of F sc__law_odd t__law_odd rfl rfl (fun X c => b__law_odd T h__law_draw c)
abbrev s__law_flags : Stmt := topS 62
def B__law_flags : Tb := ⟨["_law_e", "_law_marks", "_law_words", "_law_word"], [0, 1, 2, 3], [0, 1, 2, 3], [0, 1, 2, 3], ["isinstance", "NoPath", "NoWidth", "NoPlace", "NoNumber", "NoJoints", "NoLongs", "NoSpan", "NoLaying", "NoRow", "NoStone", "NoFit", "Missing", "Nothing", "NoStock", "NoDrawing", "NoWants", "NoLots", "NoOrder", "NoPanel", "NoShift", "NoLine", "NoStrip", "TooGreat", "Short", "Over", "NoText", "ValueError", "LookupError", "TypeError", "ArithmeticError", "RuntimeError"], [], true, false, none⟩
theorem sc__law_flags : FnScope B__law_flags.N ["_law_e"] (defScope s__law_flags) := ⟨rfl, rfl, rfl, by decide +kernel, rfl, by decide +kernel, by decide +kernel⟩
theorem t__law_flags : fnT B__law_flags (defScope s__law_flags) = true := by decide +kernel
noncomputable def d__law_flags (ea : Addr) (xn : Str) (d : Option Addr) : En → Sto → SR :=
    (sSeq (sSet 1 (eLst (aCons (eIsx ea xn d (decide (xn = "NoPath")) 0) (aCons (eIsx ea xn d (decide (xn = "NoWidth")) 0) (aCons (eIsx ea xn d (decide (xn = "NoPlace")) 0) (aCons (eIsx ea xn d (decide (xn = "NoNumber")) 0) aNil))))))
    (sSeq (sSet 1 (eOp2 addD (eVar 1) (eLst (aCons (eIsx ea xn d (decide (xn = "NoJoints")) 0) (aCons (eIsx ea xn d (decide (xn = "NoLongs")) 0) (aCons (eIsx ea xn d (decide (xn = "NoSpan")) 0) (aCons (eIsx ea xn d (decide (xn = "NoLaying")) 0) aNil)))))))
    (sSeq (sSet 1 (eOp2 addD (eVar 1) (eLst (aCons (eIsx ea xn d (decide (xn = "NoRow")) 0) (aCons (eIsx ea xn d (decide (xn = "NoStone")) 0) (aCons (eIsx ea xn d (decide (xn = "NoFit")) 0) (aCons (eIsx ea xn d (decide (xn = "Missing")) 0) aNil)))))))
    (sSeq (sSet 1 (eOp2 addD (eVar 1) (eLst (aCons (eIsx ea xn d (decide (xn = "Nothing")) 0) (aCons (eIsx ea xn d (decide (xn = "NoStock")) 0) (aCons (eIsx ea xn d (decide (xn = "NoDrawing")) 0) (aCons (eIsx ea xn d (decide (xn = "NoWants")) 0) aNil)))))))
    (sSeq (sSet 1 (eOp2 addD (eVar 1) (eLst (aCons (eIsx ea xn d (decide (xn = "NoLots")) 0) (aCons (eIsx ea xn d (decide (xn = "NoOrder")) 0) (aCons (eIsx ea xn d (decide (xn = "NoPanel")) 0) (aCons (eIsx ea xn d (decide (xn = "NoShift")) 0) aNil)))))))
    (sSeq (sSet 1 (eOp2 addD (eVar 1) (eLst (aCons (eIsx ea xn d (decide (xn = "NoLine")) 0) (aCons (eIsx ea xn d (decide (xn = "NoStrip")) 0) (aCons (eIsx ea xn d (decide (xn = "TooGreat")) 0) (aCons (eIsx ea xn d (decide (xn = "Short")) 0) aNil)))))))
    (sSeq (sSet 1 (eOp2 addD (eVar 1) (eLst (aCons (eIsx ea xn d (decide (xn = "Over")) 0) (aCons (eIsx ea xn d (decide (xn = "NoText")) 0) aNil)))))
    (sSeq (sIf (tOr2 (tNot1 (tTru (eIsx ea xn d true 0))) (tTru (eIsx ea xn d false 0))) (sRet (eTup (aCons (eK (.str "other")) aNil))) sNil)
    (sSeq (sIf (tBl (eOp2 neD (eMd cntD (eVar 1) (aCons (eK (.bool true)) aNil)) (eK (.int 1)))) (sRet (eTup (aCons (eK (.str "other")) aNil))) sNil)
    (sSeq (sSet 2 (eLst (aCons (eK (.str "path")) (aCons (eK (.str "width")) (aCons (eK (.str "place")) (aCons (eK (.str "number")) (aCons (eK (.str "joints")) (aCons (eK (.str "longs")) (aCons (eK (.str "span")) (aCons (eK (.str "laying")) (aCons (eK (.str "row")) (aCons (eK (.str "stone")) (aCons (eK (.str "fit")) (aCons (eK (.str "missing")) aNil))))))))))))))
    (sSeq (sSet 2 (eOp2 addD (eVar 2) (eLst (aCons (eK (.str "nothing")) (aCons (eK (.str "stock")) (aCons (eK (.str "drawing")) (aCons (eK (.str "wants")) (aCons (eK (.str "lots")) (aCons (eK (.str "order")) (aCons (eK (.str "panel")) (aCons (eK (.str "shift")) (aCons (eK (.str "line")) (aCons (eK (.str "strip")) aNil)))))))))))))
    (sSeq (sSet 3 (eOp2 ixD (eOp2 addD (eVar 2) (eLst (aCons (eK (.str "great")) (aCons (eK (.str "short")) (aCons (eK (.str "over")) (aCons (eK (.str "text")) aNil)))))) (eMd idxD (eVar 1) (aCons (eK (.bool true)) aNil))))
    (sSeq (sIf (tBl (eOp2 eqD (eVar 3) (eK (.str "strip")))) (sRet (eTup (aCons (eVar 3) (aCons (eXfO fldX ea xn d "leg" 0) aNil)))) sNil)
    (sSeq (sIf (tBl (eOp2 eqD (eVar 3) (eK (.str "great")))) (sRet (eTup (aCons (eVar 3) (aCons (eXfO fldX ea xn d "many" 0) (aCons (eXfO fldX ea xn d "most" 0) aNil))))) sNil)
    (sSeq (sIf (tBl (eOp2 eqD (eVar 3) (eK (.str "short")))) (sRet (eTup (aCons (eVar 3) (aCons (eXfO fldX ea xn d "shade" 0) (aCons (eXfO fldX ea xn d "batch" 0) (aCons (eXfO fldX ea xn d "long" 0) (aCons (eXfO fldX ea xn d "by" 0) aNil))))))) sNil)
    (sSeq (sIf (tBl (eOp2 eqD (eVar 3) (eK (.str "over")))) (sRet (eTup (aCons (eVar 3) (aCons (eXfO fldX ea xn d "row" 0) (aCons (eXfO fldX ea xn d "stone" 0) (aCons (eXfO fldX ea xn d "other" 0) (aCons (eXfO fldX ea xn d "second" 0) aNil))))))) sNil)
    (sRet (eIf (tBl (eOp2 eqD (eVar 3) (eK (.str "text")))) (eTup (aCons (eVar 3) (aCons (eXfO fldX ea xn d "word" 0) aNil))) (eTup (aCons (eVar 3) aNil))))))))))))))))))))
abbrev FlT (M : Md) : Prop := FlFn M "_law_flags" 0 4 d__law_flags (XcA M "StoneError" ysX fldX)
theorem b__law_flags {M : Md} {X : Cx} {ea C : Addr} {xn : Str} {d : Option Addr} (T : Hs M) (E : XcA M "StoneError" ysX fldX xn C) (c : Cxh M X B__law_flags 0 ea xn C d) : DB X (defBody s__law_flags) (d__law_flags ea xn d) :=
    (db_cons (dsh_set c 1 rfl (by decide) (de_lst (da_cons (deh_isO c E.exc 0 1 0 rfl (by decide) rfl T.z_isinstance rfl (E.own _ (by decide))) (da_cons (deh_isO c E.exc 0 2 0 rfl (by decide) rfl T.z_isinstance rfl (E.own _ (by decide))) (da_cons (deh_isO c E.exc 0 3 0 rfl (by decide) rfl T.z_isinstance rfl (E.own _ (by decide))) (da_cons (deh_isO c E.exc 0 4 0 rfl (by decide) rfl T.z_isinstance rfl (E.own _ (by decide))) da_nil))))))
    (db_cons (dsh_set c 1 rfl (by decide) (de_bin o_add (deh_var c 1 rfl (by decide)) (de_lst (da_cons (deh_isO c E.exc 0 5 0 rfl (by decide) rfl T.z_isinstance rfl (E.own _ (by decide))) (da_cons (deh_isO c E.exc 0 6 0 rfl (by decide) rfl T.z_isinstance rfl (E.own _ (by decide))) (da_cons (deh_isO c E.exc 0 7 0 rfl (by decide) rfl T.z_isinstance rfl (E.own _ (by decide))) (da_cons (deh_isO c E.exc 0 8 0 rfl (by decide) rfl T.z_isinstance rfl (E.own _ (by decide))) da_nil)))))))
    (db_cons (dsh_set c 1 rfl (by decide) (de_bin o_add (deh_var c 1 rfl (by decide)) (de_lst (da_cons (deh_isO c E.exc 0 9 0 rfl (by decide) rfl T.z_isinstance rfl (E.own _ (by decide))) (da_cons (deh_isO c E.exc 0 10 0 rfl (by decide) rfl T.z_isinstance rfl (E.own _ (by decide))) (da_cons (deh_isO c E.exc 0 11 0 rfl (by decide) rfl T.z_isinstance rfl (E.own _ (by decide))) (da_cons (deh_isO c E.exc 0 12 0 rfl (by decide) rfl T.z_isinstance rfl (E.own _ (by decide))) da_nil)))))))
    (db_cons (dsh_set c 1 rfl (by decide) (de_bin o_add (deh_var c 1 rfl (by decide)) (de_lst (da_cons (deh_isO c E.exc 0 13 0 rfl (by decide) rfl T.z_isinstance rfl (E.own _ (by decide))) (da_cons (deh_isO c E.exc 0 14 0 rfl (by decide) rfl T.z_isinstance rfl (E.own _ (by decide))) (da_cons (deh_isO c E.exc 0 15 0 rfl (by decide) rfl T.z_isinstance rfl (E.own _ (by decide))) (da_cons (deh_isO c E.exc 0 16 0 rfl (by decide) rfl T.z_isinstance rfl (E.own _ (by decide))) da_nil)))))))
    (db_cons (dsh_set c 1 rfl (by decide) (de_bin o_add (deh_var c 1 rfl (by decide)) (de_lst (da_cons (deh_isO c E.exc 0 17 0 rfl (by decide) rfl T.z_isinstance rfl (E.own _ (by decide))) (da_cons (deh_isO c E.exc 0 18 0 rfl (by decide) rfl T.z_isinstance rfl (E.own _ (by decide))) (da_cons (deh_isO c E.exc 0 19 0 rfl (by decide) rfl T.z_isinstance rfl (E.own _ (by decide))) (da_cons (deh_isO c E.exc 0 20 0 rfl (by decide) rfl T.z_isinstance rfl (E.own _ (by decide))) da_nil)))))))
    (db_cons (dsh_set c 1 rfl (by decide) (de_bin o_add (deh_var c 1 rfl (by decide)) (de_lst (da_cons (deh_isO c E.exc 0 21 0 rfl (by decide) rfl T.z_isinstance rfl (E.own _ (by decide))) (da_cons (deh_isO c E.exc 0 22 0 rfl (by decide) rfl T.z_isinstance rfl (E.own _ (by decide))) (da_cons (deh_isO c E.exc 0 23 0 rfl (by decide) rfl T.z_isinstance rfl (E.own _ (by decide))) (da_cons (deh_isO c E.exc 0 24 0 rfl (by decide) rfl T.z_isinstance rfl (E.own _ (by decide))) da_nil)))))))
    (db_cons (dsh_set c 1 rfl (by decide) (de_bin o_add (deh_var c 1 rfl (by decide)) (de_lst (da_cons (deh_isO c E.exc 0 25 0 rfl (by decide) rfl T.z_isinstance rfl (E.own _ (by decide))) (da_cons (deh_isO c E.exc 0 26 0 rfl (by decide) rfl T.z_isinstance rfl (E.own _ (by decide))) da_nil)))))
    (db_cons (ds_if (DW.dt (dw_or (dt_not (dt_val (deh_isb (p5 := ⟨0, 0, 0, 0⟩) c E.exc 0 27 0 rfl (by decide) rfl T.z_isinstance rfl T.z_ValueError PyProof.Rows.Boot.«ValueError» E.ve))) (dw_or1 (dt_val (deh_ist c E.exc 0 0 (j1 := 28) (j2 := 29) (j3 := 30) (j4 := 31) rfl (by decide) rfl T.z_isinstance rfl rfl rfl rfl T.z_LookupError T.z_TypeError T.z_ArithmeticError T.z_RuntimeError PyProof.Rows.Boot.«LookupError» PyProof.Rows.Boot.«TypeError» PyProof.Rows.Boot.«ArithmeticError» PyProof.Rows.Boot.«RuntimeError» (by decide) (by decide) (by decide) (by decide) E.no4))))) (db_one (ds_ret (de_tup (da_cons de_str da_nil)))) db_nil)
    (db_cons (ds_if (dt_cmp (o_ne c.roomH) (deh_count c.roomH (deh_var c 1 rfl (by decide)) (da_cons de_bl da_nil)) de_int (nomark _)) (db_one (ds_ret (de_tup (da_cons de_str da_nil)))) db_nil)
    (db_cons (dsh_set c 2 rfl (by decide) (de_lst (da_cons de_str (da_cons de_str (da_cons de_str (da_cons de_str (da_cons de_str (da_cons de_str (da_cons de_str (da_cons de_str (da_cons de_str (da_cons de_str (da_cons de_str (da_cons de_str da_nil))))))))))))))
    (db_cons (dsh_set c 2 rfl (by decide) (de_bin o_add (deh_var c 2 rfl (by decide)) (de_lst (da_cons de_str (da_cons de_str (da_cons de_str (da_cons de_str (da_cons de_str (da_cons de_str (da_cons de_str (da_cons de_str (da_cons de_str (da_cons de_str da_nil)))))))))))))
    (db_cons (dsh_set c 3 rfl (by decide) (de_ix c.roomH (de_bin o_add (deh_var c 2 rfl (by decide)) (de_lst (da_cons de_str (da_cons de_str (da_cons de_str (da_cons de_str da_nil)))))) (deh_index (deh_var c 1 rfl (by decide)) (da_cons de_bl da_nil)) (fun _ _ => rfl)))
    (db_cons (ds_if (dt_cmp (o_eq c.roomH) (deh_var c 3 rfl (by decide)) de_str (nomark _)) (db_one (ds_ret (de_tup (da_cons (deh_var c 3 rfl (by decide)) (da_cons (deh_xfO c E 0 rfl (by decide)) da_nil))))) db_nil)
    (db_cons (ds_if (dt_cmp (o_eq c.roomH) (deh_var c 3 rfl (by decide)) de_str (nomark _)) (db_one (ds_ret (de_tup (da_cons (deh_var c 3 rfl (by decide)) (da_cons (deh_xfO c E 0 rfl (by decide)) (da_cons (deh_xfO c E 0 rfl (by decide)) da_nil)))))) db_nil)
    (db_cons (ds_if (dt_cmp (o_eq c.roomH) (deh_var c 3 rfl (by decide)) de_str (nomark _)) (db_one (ds_ret (de_tup (da_cons (deh_var c 3 rfl (by decide)) (da_cons (deh_xfO c E 0 rfl (by decide)) (da_cons (deh_xfO c E 0 rfl (by decide)) (da_cons (deh_xfO c E 0 rfl (by decide)) (da_cons (deh_xfO c E 0 rfl (by decide)) da_nil)))))))) db_nil)
    (db_cons (ds_if (dt_cmp (o_eq c.roomH) (deh_var c 3 rfl (by decide)) de_str (nomark _)) (db_one (ds_ret (de_tup (da_cons (deh_var c 3 rfl (by decide)) (da_cons (deh_xfO c E 0 rfl (by decide)) (da_cons (deh_xfO c E 0 rfl (by decide)) (da_cons (deh_xfO c E 0 rfl (by decide)) (da_cons (deh_xfO c E 0 rfl (by decide)) da_nil)))))))) db_nil)
    (db_one (ds_ret (de_if (dt_cmp (o_eq c.roomH) (deh_var c 3 rfl (by decide)) de_str (nomark _)) (de_tup (da_cons (deh_var c 3 rfl (by decide)) (da_cons (deh_xfO c E 0 rfl (by decide)) da_nil))) (de_tup (da_cons (deh_var c 3 rfl (by decide)) da_nil)))))))))))))))))))))
theorem h__law_flags {M : Md} (T : Hs M) (F : TopFn M "_law_flags" s__law_flags ["_law_e"]) : FlT M := flfn_of F sc__law_flags t__law_flags rfl fun ea C xn d E X c => b__law_flags T E c
abbrev s__law_said : Stmt := topS 63
theorem sc__law_said : FnScope ["_law_call", "_law_e"] ["_law_call"] (defScope s__law_said) := ⟨rfl, rfl, rfl, by decide +kernel, rfl, by decide +kernel, by decide +kernel⟩
abbrev told__law_said : Option Str := none
def flT__law_said : FlTab := [("NoPath", "path", []), ("NoText", "text", ["word"])]
def fl__law_said : Xc → Option PyData := flL flT__law_said
theorem fv_NoPath : FvOk 4 d__law_flags "NoPath" "path" [] := fv_0 fun ea p st => by
  have hc : cntD (.list [.bool true, .bool false, .bool false, .bool false, .bool false, .bool false, .bool false, .bool false, .bool false, .bool false, .bool false, .bool false, .bool false, .bool false, .bool false, .bool false, .bool false, .bool false, .bool false, .bool false, .bool false, .bool false, .bool false, .bool false, .bool false, .bool false]) [.bool true] = some (.int 1) := rfl
  have hi : idxD (.list [.bool true, .bool false, .bool false, .bool false, .bool false, .bool false, .bool false, .bool false, .bool false, .bool false, .bool false, .bool false, .bool false, .bool false, .bool false, .bool false, .bool false, .bool false, .bool false, .bool false, .bool false, .bool false, .bool false, .bool false, .bool false, .bool false]) [.bool true] = some (.int 0) := rfl
  have hw : atD ([.str "path", .str "width", .str "place", .str "number", .str "joints", .str "longs", .str "span", .str "laying", .str "row", .str "stone", .str "fit", .str "missing", .str "nothing", .str "stock", .str "drawing", .str "wants", .str "lots", .str "order", .str "panel", .str "shift", .str "line", .str "strip", .str "great", .str "short", .str "over", .str "text"] : List PyData) 0 = some (.str "path") := rfl
  unfold mkF d__law_flags
  simp -implicitDefEqProofs [sh_isx, lstW, tupW, show decide (("NoPath" : Str) = "NoWidth") = false from by decide +kernel, show decide (("NoPath" : Str) = "NoPlace") = false from by decide +kernel, show decide (("NoPath" : Str) = "NoNumber") = false from by decide +kernel, show decide (("NoPath" : Str) = "NoJoints") = false from by decide +kernel, show decide (("NoPath" : Str) = "NoLongs") = false from by decide +kernel, show decide (("NoPath" : Str) = "NoSpan") = false from by decide +kernel, show decide (("NoPath" : Str) = "NoLaying") = false from by decide +kernel, show decide (("NoPath" : Str) = "NoRow") = false from by decide +kernel, show decide (("NoPath" : Str) = "NoStone") = false from by decide +kernel, show decide (("NoPath" : Str) = "NoFit") = false from by decide +kernel, show decide (("NoPath" : Str) = "Missing") = false from by decide +kernel, show decide (("NoPath" : Str) = "Nothing") = false from by decide +kernel, show decide (("NoPath" : Str) = "NoStock") = false from by decide +kernel, show decide (("NoPath" : Str) = "NoDrawing") = false from by decide +kernel, show decide (("NoPath" : Str) = "NoWants") = false from by decide +kernel, show decide (("NoPath" : Str) = "NoLots") = false from by decide +kernel, show decide (("NoPath" : Str) = "NoOrder") = false from by decide +kernel, show decide (("NoPath" : Str) = "NoPanel") = false from by decide +kernel, show decide (("NoPath" : Str) = "NoShift") = false from by decide +kernel, show decide (("NoPath" : Str) = "NoLine") = false from by decide +kernel, show decide (("NoPath" : Str) = "NoStrip") = false from by decide +kernel, show decide (("NoPath" : Str) = "TooGreat") = false from by decide +kernel, show decide (("NoPath" : Str) = "Short") = false from by decide +kernel, show decide (("NoPath" : Str) = "Over") = false from by decide +kernel, show decide (("NoPath" : Str) = "NoText") = false from by decide +kernel, hc, hi, hw, show (("path" : Str) == "strip") = false from by decide +kernel, show (("path" : Str) == "great") = false from by decide +kernel, show (("path" : Str) == "short") = false from by decide +kernel, show (("path" : Str) == "over") = false from by decide +kernel, show (("path" : Str) == "text") = false from by decide +kernel]
theorem fv_NoText : FvOk 4 d__law_flags "NoText" "text" ["word"] := fv_1 fun ea dd y1 st => by
  have hc : cntD (.list [.bool false, .bool false, .bool false, .bool false, .bool false, .bool false, .bool false, .bool false, .bool false, .bool false, .bool false, .bool false, .bool false, .bool false, .bool false, .bool false, .bool false, .bool false, .bool false, .bool false, .bool false, .bool false, .bool false, .bool false, .bool false, .bool true]) [.bool true] = some (.int 1) := rfl
  have hi : idxD (.list [.bool false, .bool false, .bool false, .bool false, .bool false, .bool false, .bool false, .bool false, .bool false, .bool false, .bool false, .bool false, .bool false, .bool false, .bool false, .bool false, .bool false, .bool false, .bool false, .bool false, .bool false, .bool false, .bool false, .bool false, .bool false, .bool true]) [.bool true] = some (.int 25) := rfl
  have hw : atD ([.str "path", .str "width", .str "place", .str "number", .str "joints", .str "longs", .str "span", .str "laying", .str "row", .str "stone", .str "fit", .str "missing", .str "nothing", .str "stock", .str "drawing", .str "wants", .str "lots", .str "order", .str "panel", .str "shift", .str "line", .str "strip", .str "great", .str "short", .str "over", .str "text"] : List PyData) 25 = some (.str "text") := rfl
  have hx0 := fun env st => sh_xfO (fl := fldX) (ea := ea) (dd := dd) (xn := "NoText") (f := "word") (es := [("word", y1)]) (y := y1) (by decide +kernel) rfl env st
  unfold mkF d__law_flags
  simp -implicitDefEqProofs [sh_isx2, lstW, tupW, show decide (("NoText" : Str) = "NoPath") = false from by decide +kernel, show decide (("NoText" : Str) = "NoWidth") = false from by decide +kernel, show decide (("NoText" : Str) = "NoPlace") = false from by decide +kernel, show decide (("NoText" : Str) = "NoNumber") = false from by decide +kernel, show decide (("NoText" : Str) = "NoJoints") = false from by decide +kernel, show decide (("NoText" : Str) = "NoLongs") = false from by decide +kernel, show decide (("NoText" : Str) = "NoSpan") = false from by decide +kernel, show decide (("NoText" : Str) = "NoLaying") = false from by decide +kernel, show decide (("NoText" : Str) = "NoRow") = false from by decide +kernel, show decide (("NoText" : Str) = "NoStone") = false from by decide +kernel, show decide (("NoText" : Str) = "NoFit") = false from by decide +kernel, show decide (("NoText" : Str) = "Missing") = false from by decide +kernel, show decide (("NoText" : Str) = "Nothing") = false from by decide +kernel, show decide (("NoText" : Str) = "NoStock") = false from by decide +kernel, show decide (("NoText" : Str) = "NoDrawing") = false from by decide +kernel, show decide (("NoText" : Str) = "NoWants") = false from by decide +kernel, show decide (("NoText" : Str) = "NoLots") = false from by decide +kernel, show decide (("NoText" : Str) = "NoOrder") = false from by decide +kernel, show decide (("NoText" : Str) = "NoPanel") = false from by decide +kernel, show decide (("NoText" : Str) = "NoShift") = false from by decide +kernel, show decide (("NoText" : Str) = "NoLine") = false from by decide +kernel, show decide (("NoText" : Str) = "NoStrip") = false from by decide +kernel, show decide (("NoText" : Str) = "TooGreat") = false from by decide +kernel, show decide (("NoText" : Str) = "Short") = false from by decide +kernel, show decide (("NoText" : Str) = "Over") = false from by decide +kernel, hc, hi, hw, show (("text" : Str) == "strip") = false from by decide +kernel, show (("text" : Str) == "great") = false from by decide +kernel, show (("text" : Str) == "short") = false from by decide +kernel, show (("text" : Str) == "over") = false from by decide +kernel, hx0]
abbrev Sd__law_said (M : Md) : Prop := SaidT M "_law_said" 0 4 told__law_said fl__law_said d__law_flags (XcA M "StoneError" ysX fldX)
theorem h__law_said {M : Md} (T : Hs M) (F : FlT M) (TF : TopFn M "_law_said" s__law_said ["_law_call"]) : Sd__law_said M := by
  obtain ⟨CS, hCS⟩ := T.e_StoneError
  refine saidT_of (CSn := "StoneError") (CS := CS) TF sc__law_said ⟨by decide, by decide⟩ hCS (fun X g cd q e1 e2 e3 e4 e5 hr => said_gives e1 e2 e3 e4 e5 F hr sc__law_said rfl rfl rfl hCS (by decide) (by decide) (by decide) (by decide)) (flL_ok (l := flT__law_said) ?_)
  exact flL_cons T.e_NoPath fv_NoPath (flL_cons T.e_NoText fv_NoText (flL_nil))
abbrev s_is_whole : Stmt := topS 34
def B_is_whole : Tb := ⟨["thing"], [0], [0], [0], ["isinstance", "int", "bool"], [], true, false, none⟩
theorem sc_is_whole : FnScope B_is_whole.N ["thing"] (defScope s_is_whole) := ⟨rfl, rfl, rfl, by decide +kernel, rfl, by decide +kernel, by decide +kernel⟩
theorem t_is_whole : fnT B_is_whole (defScope s_is_whole) = true := by decide +kernel
noncomputable def d_is_whole : En → Sto → SR :=
    (sRet (eAnd2 (eOp1 (isaD "int") (eVar 0)) (eNot1 (eOp1 (isaD "bool") (eVar 0)))))
noncomputable def m_is_whole : List Wv → Sto → Rs Wv := mkF 1 1 d_is_whole
theorem b_is_whole {M : Md} {X : Cx} (T : Hs M)  (c : Cxt M X B_is_whole 0) : DB X (defBody s_is_whole) d_is_whole :=
    (db_one (ds_ret (de_and (de_isa c 0 1 rfl T.z_isinstance rfl T.z_int (by decide +kernel) (de_var c 0 rfl (by decide))) (de_one (de_not (de_isa c 0 2 rfl T.z_isinstance rfl T.z_bool (by decide +kernel) (de_var c 0 rfl (by decide))))))))
theorem h_is_whole {M : Md} (T : Hs M)  (F : TopFn M "is_whole" s_is_whole ["thing"]) : Has M false 1 "is_whole" ["thing"] m_is_whole := has_of F sc_is_whole t_is_whole rfl rfl (fun X c => b_is_whole T  c)
abbrev s_is_from_to : Stmt := topS 35
def B_is_from_to : Tb := ⟨["thing", "least", "most"], [0, 1, 2], [0, 1, 2], [0, 1, 2], ["is_whole"], [], true, false, none⟩
theorem sc_is_from_to : FnScope B_is_from_to.N ["thing", "least", "most"] (defScope s_is_from_to) := ⟨rfl, rfl, rfl, by decide +kernel, rfl, by decide +kernel, by decide +kernel⟩
theorem t_is_from_to : fnT B_is_from_to (defScope s_is_from_to) = true := by decide +kernel
noncomputable def d_is_from_to : En → Sto → SR :=
    (sRet (eAnd2 (eCall m_is_whole (aCons (eVar 0) aNil)) (eChain leD leD (eVar 1) (eVar 0) (eVar 2))))
noncomputable def m_is_from_to : List Wv → Sto → Rs Wv := mkF 3 3 d_is_from_to
theorem b_is_from_to {M : Md} {X : Cx} (T : Hs M) (h_is_whole : Has M false 1 "is_whole" ["thing"] m_is_whole) (c : Cxt M X B_is_from_to 1) : DB X (defBody s_is_from_to) d_is_from_to :=
    (db_one (ds_ret (de_and (de_fn c (h_is_whole.up (by decide)) 0 rfl (da_cons (de_var c 0 rfl (by decide)) da_nil)) (de_one (de_chain (o_le c.roomH) (o_le c.roomH) (de_var c 1 rfl (by decide)) (de_var c 0 rfl (by decide)) (de_var c 2 rfl (by decide)))))))
theorem h_is_from_to {M : Md} (T : Hs M) (h_is_whole : Has M false 1 "is_whole" ["thing"] m_is_whole) (F : TopFn M "is_from_to" s_is_from_to ["thing", "least", "most"]) : Has M false 2 "is_from_to" ["thing", "least", "most"] m_is_from_to := has_of F sc_is_from_to t_is_from_to rfl rfl (fun X c => b_is_from_to T h_is_whole c)
abbrev s_quarter : Stmt := topS 37
def B_quarter : Tb := ⟨["one", "other"], [0, 1], [0, 1], [0, 1], ["WAYS_paths"], [], true, false, none⟩
theorem sc_quarter : FnScope B_quarter.N ["one", "other"] (defScope s_quarter) := ⟨rfl, rfl, rfl, by decide +kernel, rfl, by decide +kernel, by decide +kernel⟩
theorem t_quarter : fnT B_quarter (defScope s_quarter) = true := by decide +kernel
noncomputable def d_quarter : En → Sto → SR :=
    (sRet (eOp2 modD (eOp2 subD (eGix y_WAYS_paths (aCons (eVar 1) aNil)) (eGix y_WAYS_paths (aCons (eVar 0) aNil))) (eK (.int 4))))
noncomputable def m_quarter : List Wv → Sto → Rs Wv := mkF 2 2 d_quarter
theorem b_quarter {M : Md} {X : Cx} (T : Hs M)  (c : Cxt M X B_quarter 0) : DB X (defBody s_quarter) d_quarter :=
    (db_one (ds_ret (de_bin o_mod (de_bin o_sub (ix_WAYS_paths T c 0 rfl (da_cons (de_var c 1 rfl (by decide)) da_nil)) (ix_WAYS_paths T c 0 rfl (da_cons (de_var c 0 rfl (by decide)) da_nil))) de_int)))
theorem h_quarter {M : Md} (T : Hs M)  (F : TopFn M "quarter" s_quarter ["one", "other"]) : Has M false 1 "quarter" ["one", "other"] m_quarter := has_of F sc_quarter t_quarter rfl rfl (fun X c => b_quarter T  c)
abbrev s_is_leg : Stmt := topS 36
def B_is_leg : Tb := ⟨["thing"], [0], [0], [0], ["isinstance", "tuple", "len", "str", "WAYS_paths", "is_from_to", "MOST_LONG"], [], true, false, none⟩
theorem sc_is_leg : FnScope B_is_leg.N ["thing"] (defScope s_is_leg) := ⟨rfl, rfl, rfl, by decide +kernel, rfl, by decide +kernel, by decide +kernel⟩
theorem t_is_leg : fnT B_is_leg (defScope s_is_leg) = true := by decide +kernel
noncomputable def d_is_leg : En → Sto → SR :=
    (sSeq (sIf (tOr2 (tNot1 (tTru (eOp1 (isaD "tuple") (eVar 0)))) (tOr2 (tBl (eOp2 neD (eOpN lenF (aCons (eVar 0) aNil)) (eK (.int 2)))) (tOr2 (tNot1 (tTru (eOp1 (isaD "str") (eOp2 ixD (eVar 0) (eK (.int 0)))))) (tBl (eOp2 niD (eOp2 ixD (eVar 0) (eK (.int 0))) (eK w_WAYS_paths)))))) (sRet (eK (.bool false))) sNil)
    (sRet (eCall m_is_from_to (aCons (eOp2 ixD (eVar 0) (eK (.int 1))) (aCons (eK (.int 1)) (aCons (eK w_MOST_LONG) aNil))))))
noncomputable def m_is_leg : List Wv → Sto → Rs Wv := mkF 1 1 d_is_leg
theorem b_is_leg {M : Md} {X : Cx} (T : Hs M) (h_is_from_to : Has M false 2 "is_from_to" ["thing", "least", "most"] m_is_from_to) (c : Cxt M X B_is_leg 2) : DB X (defBody s_is_leg) d_is_leg :=
    (db_cons (ds_if (DW.dt (dw_or (dt_not (dt_val (de_isa c 0 1 rfl T.z_isinstance rfl T.z_tuple (by decide +kernel) (de_var c 0 rfl (by decide))))) (dw_or (dt_cmp (o_ne c.roomH) (de_callB (id := "len") c c_len 2 rfl T.z_len (by decide +kernel) (da_cons (de_var c 0 rfl (by decide)) da_nil)) de_int (nomark _)) (dw_or (dt_not (dt_val (de_isa c 0 3 rfl T.z_isinstance rfl T.z_str (by decide +kernel) (de_ix c.roomH (de_var c 0 rfl (by decide)) de_int (fun _ _ => rfl))))) (dw_or1 (dt_cmp (o_ni c.roomH) (de_ix c.roomH (de_var c 0 rfl (by decide)) de_int (fun _ _ => rfl)) (q_WAYS_paths T c 4 rfl) rfl)))))) (db_one (ds_ret de_bl)) db_nil)
    (db_one (ds_ret (de_fn c (h_is_from_to.up (by decide)) 5 rfl (da_cons (de_ix c.roomH (de_var c 0 rfl (by decide)) de_int (fun _ _ => rfl)) (da_cons de_int (da_cons (q_MOST_LONG T c 6 rfl) da_nil)))))))
theorem h_is_leg {M : Md} (T : Hs M) (h_is_from_to : Has M false 2 "is_from_to" ["thing", "least", "most"] m_is_from_to) (F : TopFn M "is_leg" s_is_leg ["thing"]) : Has M false 3 "is_leg" ["thing"] m_is_leg := has_of F sc_is_leg t_is_leg rfl rfl (fun X c => b_is_leg T h_is_from_to c)
abbrev s_is_path : Stmt := topS 38
def B_is_path : Tb := ⟨["thing", ".0", "one", "other", "leg"], [0], [0], [0], ["isinstance", "tuple", "len", "is_from_to", "MOST_FAR", "MOST_LEGS", "all", "zip"], [], true, false, none⟩
theorem sc_is_path : FnScope B_is_path.N ["thing"] (defScope s_is_path) := ⟨rfl, rfl, rfl, by decide +kernel, rfl, by decide +kernel, by decide +kernel⟩
theorem t_is_path : fnT B_is_path (defScope s_is_path) = true := by decide +kernel
noncomputable def d_is_path : En → Sto → SR :=
    (sSeq (sIf (tOr2 (tNot1 (tTru (eOp1 (isaD "tuple") (eVar 0)))) (tOr2 (tBl (eOp2 neD (eOpN lenF (aCons (eVar 0) aNil)) (eK (.int 3)))) (tNot1 (tTru (eOp1 (isaD "tuple") (eOp2 ixD (eVar 0) (eK (.int 2)))))))) (sRet (eK (.bool false))) sNil)
    (sSeq (sIf (tOr2 (tNot1 (tTru (eCall m_is_from_to (aCons (eOp2 ixD (eVar 0) (eK (.int 0))) (aCons (eOp2 subD (eK (.int 0)) (eK w_MOST_FAR)) (aCons (eK w_MOST_FAR) aNil)))))) (tNot1 (tTru (eCall m_is_from_to (aCons (eOp2 ixD (eVar 0) (eK (.int 1))) (aCons (eOp2 subD (eK (.int 0)) (eK w_MOST_FAR)) (aCons (eK w_MOST_FAR) aNil))))))) (sRet (eK (.bool false))) sNil)
    (sSeq (sIf (tOr2 (tNot1 (tBl (eChain leD leD (eK (.int 1)) (eOpN lenF (aCons (eOp2 ixD (eVar 0) (eK (.int 2))) aNil)) (eK w_MOST_LEGS)))) (tNot1 (tTru (eOpN allF (aCons (eLc (cSeq (eOp2 ixD (eVar 0) (eK (.int 2)))) (gN 4) tYs (eCall m_is_leg (aCons (eVar 4) aNil)) [1, 4]) aNil))))) (sRet (eK (.bool false))) sNil)
    (sRet (eOpN allF (aCons (eLc (cZip2 (aCons (eOp2 ixD (eVar 0) (eK (.int 2))) (aCons (eSlice (eOp2 ixD (eVar 0) (eK (.int 2))) (pSome (eK (.int 1))) pNo) aNil))) (gTp (gCn (gN 2) (gCn (gN 3) gNl))) tYs (eOp2 inD (eCall m_quarter (aCons (eOp2 ixD (eVar 2) (eK (.int 0))) (aCons (eOp2 ixD (eVar 3) (eK (.int 0))) aNil))) (eTup (aCons (eK (.int 1)) (aCons (eK (.int 3)) aNil)))) [1, 2, 3]) aNil))))))
noncomputable def m_is_path : List Wv → Sto → Rs Wv := mkF 1 5 d_is_path
theorem b_is_path {M : Md} {X : Cx} (T : Hs M) (h_is_from_to : Has M false 2 "is_from_to" ["thing", "least", "most"] m_is_from_to) (h_is_leg : Has M false 3 "is_leg" ["thing"] m_is_leg) (h_quarter : Has M false 1 "quarter" ["one", "other"] m_quarter) (c : Cxt M X B_is_path 3) : DB X (defBody s_is_path) d_is_path :=
    (db_cons (ds_if (DW.dt (dw_or (dt_not (dt_val (de_isa c 0 1 rfl T.z_isinstance rfl T.z_tuple (by decide +kernel) (de_var c 0 rfl (by decide))))) (dw_or (dt_cmp (o_ne c.roomH) (de_callB (id := "len") c c_len 2 rfl T.z_len (by decide +kernel) (da_cons (de_var c 0 rfl (by decide)) da_nil)) de_int (nomark _)) (dw_or1 (dt_not (dt_val (de_isa c 0 1 rfl T.z_isinstance rfl T.z_tuple (by decide +kernel) (de_ix c.roomH (de_var c 0 rfl (by decide)) de_int (fun _ _ => rfl))))))))) (db_one (ds_ret de_bl)) db_nil)
    (db_cons (ds_if (DW.dt (dw_or (dt_not (dt_val (de_fn c (h_is_from_to.up (by decide)) 3 rfl (da_cons (de_ix c.roomH (de_var c 0 rfl (by decide)) de_int (fun _ _ => rfl)) (da_cons (de_bin o_sub de_int (q_MOST_FAR T c 4 rfl)) (da_cons (q_MOST_FAR T c 4 rfl) da_nil)))))) (dw_or1 (dt_not (dt_val (de_fn c (h_is_from_to.up (by decide)) 3 rfl (da_cons (de_ix c.roomH (de_var c 0 rfl (by decide)) de_int (fun _ _ => rfl)) (da_cons (de_bin o_sub de_int (q_MOST_FAR T c 4 rfl)) (da_cons (q_MOST_FAR T c 4 rfl) da_nil))))))))) (db_one (ds_ret de_bl)) db_nil)
    (db_cons (ds_if (DW.dt (dw_or (dt_not (dt_chain (o_le c.roomH) (o_le c.roomH) de_int (de_callB (id := "len") c c_len 2 rfl T.z_len (by decide +kernel) (da_cons (de_ix c.roomH (de_var c 0 rfl (by decide)) de_int (fun _ _ => rfl)) da_nil)) (q_MOST_LEGS T c 5 rfl))) (dw_or1 (dt_not (dt_val (de_callB (id := "all") c (c_all c.calm) 6 rfl T.z_all (by decide +kernel) (da_cons (de_lc c (lc_ok c [(".0", 1), ("leg", 4)] [1, 4] [1, 4] ["is_leg"] [] (by decide +kernel) (di_seq (de_ix c.roomH (de_var c 0 rfl (by decide)) de_int (fun _ _ => rfl))) (by decide) (fun _ c2 => (dg_name c2 [1, 4] 4 rfl (by decide) (by decide))) (fun _ c2 => dts_nil) (fun _ c2 => (de_fn c2 (h_is_leg.up (by decide)) 0 rfl (da_cons (de_var c2 4 rfl (by decide)) da_nil))))) da_nil))))))) (db_one (ds_ret de_bl)) db_nil)
    (db_one (ds_ret (de_callB (id := "all") c (c_all c.calm) 6 rfl T.z_all (by decide +kernel) (da_cons (de_lc c (lc_ok c [(".0", 1), ("one", 2), ("other", 3)] [1, 2, 3] [1, 2, 3] ["quarter"] [] (by decide +kernel) (di_zip2 c 7 rfl T.z_zip (da_cons (de_ix c.roomH (de_var c 0 rfl (by decide)) de_int (fun _ _ => rfl)) (da_cons (de_slice (de_ix c.roomH (de_var c 0 rfl (by decide)) de_int (fun _ _ => rfl)) (do_some de_int) do_no) da_nil))) (by decide) (fun _ c3 => (dg_tup c3 (dgs_cons (dg_name c3 [1, 2, 3] 2 rfl (by decide) (by decide)) (dgs_cons (dg_name c3 [1, 2, 3] 3 rfl (by decide) (by decide)) (dgs_nil [1, 2, 3]))) (asks_cons (asks_cons asks_nil)))) (fun _ c3 => dts_nil) (fun _ c3 => (de_cmp (o_in c3.roomH) (de_fn c3 (h_quarter.up (by decide)) 0 rfl (da_cons (de_ix c3.roomH (de_var c3 2 rfl (by decide)) de_int (fun _ _ => rfl)) (da_cons (de_ix c3.roomH (de_var c3 3 rfl (by decide)) de_int (fun _ _ => rfl)) da_nil))) (de_tup (da_cons de_int (da_cons de_int da_nil))) rfl)))) da_nil)))))))
theorem h_is_path {M : Md} (T : Hs M) (h_is_from_to : Has M false 2 "is_from_to" ["thing", "least", "most"] m_is_from_to) (h_is_leg : Has M false 3 "is_leg" ["thing"] m_is_leg) (h_quarter : Has M false 1 "quarter" ["one", "other"] m_quarter) (F : TopFn M "is_path" s_is_path ["thing"]) : Has M false 4 "is_path" ["thing"] m_is_path := has_of F sc_is_path t_is_path rfl rfl (fun X c => b_is_path T h_is_from_to h_is_leg h_quarter c)
abbrev s_need_path : Stmt := topS 39
def B_need_path : Tb := ⟨["path"], [0], [0], [0], ["is_path", "NoPath"], [], true, false, none⟩
theorem sc_need_path : FnScope B_need_path.N ["path"] (defScope s_need_path) := ⟨rfl, rfl, rfl, by decide +kernel, rfl, by decide +kernel, by decide +kernel⟩
theorem t_need_path : fnT B_need_path (defScope s_need_path) = true := by decide +kernel
noncomputable def d_need_path : En → Sto → SR :=
    (sIf (tNot1 (tTru (eCall m_is_path (aCons (eVar 0) aNil)))) (sRaise "NoPath") sNil)
noncomputable def m_need_path : List Wv → Sto → Rs Wv := mkF 1 1 d_need_path
theorem b_need_path {M : Md} {X : Cx} (T : Hs M) (h_is_path : Has M false 4 "is_path" ["thing"] m_is_path) (c : Cxt M X B_need_path 4) : DB X (defBody s_need_path) d_need_path :=
    (db_one (ds_if (dt_not (dt_val (de_fn c (h_is_path.up (by decide)) 0 rfl (da_cons (de_var c 0 rfl (by decide)) da_nil)))) (db_one (ds_raiseO c 1 rfl T.e_NoPath)) db_nil))
theorem h_need_path {M : Md} (T : Hs M) (h_is_path : Has M false 4 "is_path" ["thing"] m_is_path) (F : TopFn M "need_path" s_need_path ["path"]) : Has M false 5 "need_path" ["path"] m_need_path := has_of F sc_need_path t_need_path rfl rfl (fun X c => b_need_path T h_is_path c)
abbrev s_path_words : Stmt := topS 44
def B_path_words : Tb := ⟨["path", "found", "way", "long"], [0, 1, 2, 3], [0, 1, 2, 3], [0, 1, 2, 3], ["str"], [], true, false, none⟩
theorem sc_path_words : FnScope B_path_words.N ["path"] (defScope s_path_words) := ⟨rfl, rfl, rfl, by decide +kernel, rfl, by decide +kernel, by decide +kernel⟩
theorem t_path_words : fnT B_path_words (defScope s_path_words) = true := by decide +kernel
noncomputable def d_path_words_l1 : En → Sto → SR :=
    (sWp [2, 3] (sSet 1 (eOp2 addD (eVar 1) (eLst (aCons (eVar 2) (aCons (eOpN strF (aCons (eVar 3) aNil)) aNil))))))
noncomputable def d_path_words : En → Sto → SR :=
    (sSeq (sSet 1 (eLst (aCons (eOpN strF (aCons (eOp2 ixD (eVar 0) (eK (.int 0))) aNil)) (aCons (eOpN strF (aCons (eOp2 ixD (eVar 0) (eK (.int 1))) aNil)) aNil))))
    (sSeq (sFor (cSeq (eOp2 ixD (eVar 0) (eK (.int 2)))) (gTp (gCn (gN 2) (gCn (gN 3) gNl))) d_path_words_l1)
    (sRet (eVar 1))))
noncomputable def m_path_words : List Wv → Sto → Rs Wv := mkF 1 4 d_path_words
theorem b_path_words {M : Md} {X : Cx} (T : Hs M)  (c : Cxt M X B_path_words 0) : DB X (defBody s_path_words) d_path_words :=
    (db_cons (ds_set c 1 rfl (by decide) (de_lst (da_cons (de_callT (T := "str") c c_str 0 rfl T.z_str (by decide +kernel) (da_cons (de_ix c.roomH (de_var c 0 rfl (by decide)) de_int (fun _ _ => rfl)) da_nil)) (da_cons (de_callT (T := "str") c c_str 0 rfl T.z_str (by decide +kernel) (da_cons (de_ix c.roomH (de_var c 0 rfl (by decide)) de_int (fun _ _ => rfl)) da_nil)) da_nil))))
    (db_cons (ds_for c [2, 3] (di_seq (de_ix c.roomH (de_var c 0 rfl (by decide)) de_int (fun _ _ => rfl))) (dg_tup c (dgs_cons (dg_name c [2, 3] 2 rfl (by decide) (by decide)) (dgs_cons (dg_name c [2, 3] 3 rfl (by decide) (by decide)) (dgs_nil [2, 3]))) (asks_cons (asks_cons asks_nil)))
    (db_wp [2, 3] (db_one (ds_set c 1 rfl (by decide) (de_bin o_add (de_var c 1 rfl (by decide)) (de_lst (da_cons (de_var c 2 rfl (by decide)) (da_cons (de_callT (T := "str") c c_str 0 rfl T.z_str (by decide +kernel) (da_cons (de_var c 3 rfl (by decide)) da_nil)) da_nil))))))))
    (db_one (ds_ret (de_var c 1 rfl (by decide))))))
theorem h_path_words {M : Md} (T : Hs M)  (F : TopFn M "path_words" s_path_words ["path"]) : Has M false 1 "path_words" ["path"] m_path_words := has_of F sc_path_words t_path_words rfl rfl (fun X c => b_path_words T  c)
abbrev s_path_shown : Stmt := topS 45
def B_path_shown : Tb := ⟨["path"], [0], [0], [0], ["need_path", "path_words"], [], true, false, none⟩
theorem sc_path_shown : FnScope B_path_shown.N ["path"] (defScope s_path_shown) := ⟨rfl, rfl, rfl, by decide +kernel, rfl, by decide +kernel, by decide +kernel⟩
theorem t_path_shown : fnT B_path_shown (defScope s_path_shown) = true := by decide +kernel
noncomputable def d_path_shown : En → Sto → SR :=
    (sSeq (sExp (eCall m_need_path (aCons (eVar 0) aNil)))
    (sRet (eT1 jnD (eK (.str " ")) (eCall m_path_words (aCons (eVar 0) aNil)))))
noncomputable def m_path_shown : List Wv → Sto → Rs Wv := mkF 1 1 d_path_shown
theorem b_path_shown {M : Md} {X : Cx} (T : Hs M) (h_need_path : Has M false 5 "need_path" ["path"] m_need_path) (h_path_words : Has M false 1 "path_words" ["path"] m_path_words) (c : Cxt M X B_path_shown 5) : DB X (defBody s_path_shown) d_path_shown :=
    (db_cons (ds_exp (de_fn c (h_need_path.up (by decide)) 0 rfl (da_cons (de_var c 0 rfl (by decide)) da_nil)))
    (db_one (ds_ret (de_join de_str (de_fn c (h_path_words.up (by decide)) 1 rfl (da_cons (de_var c 0 rfl (by decide)) da_nil))))))
theorem h_path_shown {M : Md} (T : Hs M) (h_need_path : Has M false 5 "need_path" ["path"] m_need_path) (h_path_words : Has M false 1 "path_words" ["path"] m_path_words) (F : TopFn M "path_shown" s_path_shown ["path"]) : Has M false 6 "path_shown" ["path"] m_path_shown := has_of F sc_path_shown t_path_shown rfl rfl (fun X c => b_path_shown T h_need_path h_path_words c)
abbrev s_Words___init__ : Stmt := clsMs (topS 47) 0
def B_Words___init__ : Tb := ⟨["self", "text"], [0, 1], [0, 1], [0, 1], ["isinstance", "str", "NoText"], [], true, false, none⟩
theorem sc_Words___init__ : FnScope B_Words___init__.N ["self", "text"] (defScope s_Words___init__) := ⟨rfl, rfl, rfl, by decide +kernel, rfl, by decide +kernel, by decide +kernel⟩
theorem t_Words___init__ : fnT B_Words___init__ (defScope s_Words___init__) = true := by decide +kernel
noncomputable def d_Words___init__ : En → Sto → SR :=
    (sSeq (sIf (tNot1 (tTru (eOp1 (isaD "str") (eVar 1)))) (sRaiseF "NoText" ["word"] (aCons (eOp1 negD (eK (.int 1))) aNil)) sNil)
    (sSeq (sAtt (FnA.a "Words") "words" (eVar 0) (eT1 splD (eVar 1) (eK (.str " "))))
    (sAtt (FnA.a "Words") "here" (eVar 0) (eK (.int 0)))))
noncomputable def m_Words___init__ : List Wv → Sto → Rs Wv := mkF 2 2 d_Words___init__
theorem b_Words___init__ {M : Md} {X : Cx} (T : Hs M)  (c : Cxt M X B_Words___init__ 2) : DB X (defBody s_Words___init__) d_Words___init__ :=
    (db_cons (ds_if (dt_not (dt_val (de_isa c 0 1 rfl T.z_isinstance rfl T.z_str (by decide +kernel) (de_var c 1 rfl (by decide))))) (db_one (ds_raiseF c (by decide) 2 rfl T.f_NoText (da_cons (de_un o_neg de_int) da_nil))) db_nil)
    (db_cons (ds_fld c T.cl_Words T.na_Words_words (de_var c 0 rfl (by decide)) (de_split (de_var c 1 rfl (by decide)) de_str))
    (db_one (ds_fld c T.cl_Words T.na_Words_here (de_var c 0 rfl (by decide)) de_int))))
theorem h_Words___init__ {M : Md} (T : Hs M)  (F : TopM M (FnA.a "Words") "__init__" "Words.__init__" s_Words___init__ ["self", "text"]) : HasM M false 3 (FnA.a "Words") "__init__" ["self", "text"] m_Words___init__ := hasM_of F sc_Words___init__ t_Words___init__ rfl rfl rfl (fun X c => b_Words___init__ T  c)
abbrev s_Words_is_over : Stmt := clsMs (topS 47) 1
def B_Words_is_over : Tb := ⟨["self"], [0], [0], [0], ["len"], [], true, false, none⟩
theorem sc_Words_is_over : FnScope B_Words_is_over.N ["self"] (defScope s_Words_is_over) := ⟨rfl, rfl, rfl, by decide +kernel, rfl, by decide +kernel, by decide +kernel⟩
theorem t_Words_is_over : fnT B_Words_is_over (defScope s_Words_is_over) = true := by decide +kernel
noncomputable def d_Words_is_over : En → Sto → SR :=
    (sRet (eOp2 eqD (eFld (FnA.a "Words") "here" (eVar 0)) (eOpN lenF (aCons (eFld (FnA.a "Words") "words" (eVar 0)) aNil))))
noncomputable def m_Words_is_over : List Wv → Sto → Rs Wv := mkF 1 1 d_Words_is_over
theorem b_Words_is_over {M : Md} {X : Cx} (T : Hs M)  (c : Cxt M X B_Words_is_over 0) : DB X (defBody s_Words_is_over) d_Words_is_over :=
    (db_one (ds_ret (de_cmp (o_eq c.roomH) (de_fld c T.cl_Words T.na_Words_here (de_var c 0 rfl (by decide))) (de_callB (id := "len") c c_len 0 rfl T.z_len (by decide +kernel) (da_cons (de_fld c T.cl_Words T.na_Words_words (de_var c 0 rfl (by decide))) da_nil)) (nomark _))))
theorem h_Words_is_over {M : Md} (T : Hs M)  (F : TopM M (FnA.a "Words") "is_over" "Words.is_over" s_Words_is_over ["self"]) : HasM M false 1 (FnA.a "Words") "is_over" ["self"] m_Words_is_over := hasM_of F sc_Words_is_over t_Words_is_over rfl rfl rfl (fun X c => b_Words_is_over T  c)
abbrev s_Words_is_next : Stmt := clsMs (topS 47) 2
def B_Words_is_next : Tb := ⟨["self", "some"], [0, 1], [0, 1], [0, 1], [], [], true, false, none⟩
theorem sc_Words_is_next : FnScope B_Words_is_next.N ["self", "some"] (defScope s_Words_is_next) := ⟨rfl, rfl, rfl, by decide +kernel, rfl, by decide +kernel, by decide +kernel⟩
theorem t_Words_is_next : fnT B_Words_is_next (defScope s_Words_is_next) = true := by decide +kernel
noncomputable def d_Words_is_next : En → Sto → SR :=
    (sRet (eAnd2 (eNot1 (eMth (FnA.a "Words") "is_over" m_Words_is_over (eVar 0) aNil)) (eOp2 inD (eOp2 ixD (eFld (FnA.a "Words") "words" (eVar 0)) (eFld (FnA.a "Words") "here" (eVar 0))) (eVar 1))))
noncomputable def m_Words_is_next : List Wv → Sto → Rs Wv := mkF 2 2 d_Words_is_next
theorem b_Words_is_next {M : Md} {X : Cx} (T : Hs M) (h_Words_is_over : HasM M false 1 (FnA.a "Words") "is_over" ["self"] m_Words_is_over) (c : Cxt M X B_Words_is_next 1) : DB X (defBody s_Words_is_next) d_Words_is_next :=
    (db_one (ds_ret (de_and (de_not (dm_call0 c h_Words_is_over (by decide) T.cl_Words (fun z => nomatch z) (de_var c 0 rfl (by decide)))) (de_one (de_cmp (o_in c.roomH) (de_ix c.roomH (de_fld c T.cl_Words T.na_Words_words (de_var c 0 rfl (by decide))) (de_fld c T.cl_Words T.na_Words_here (de_var c 0 rfl (by decide))) (fun _ _ => rfl)) (de_var c 1 rfl (by decide)) rfl)))))
theorem h_Words_is_next {M : Md} (T : Hs M) (h_Words_is_over : HasM M false 1 (FnA.a "Words") "is_over" ["self"] m_Words_is_over) (F : TopM M (FnA.a "Words") "is_next" "Words.is_next" s_Words_is_next ["self", "some"]) : HasM M false 2 (FnA.a "Words") "is_next" ["self", "some"] m_Words_is_next := hasM_of F sc_Words_is_next t_Words_is_next rfl rfl rfl (fun X c => b_Words_is_next T h_Words_is_over c)
abbrev s_number_in : Stmt := topS 46
def B_number_in : Tb := ⟨["word", "bare", ".0", "sign"], [0, 1], [0, 1], [0, 1], ["len", "MOST_FIGURES", "int"], [], true, false, none⟩
theorem sc_number_in : FnScope B_number_in.N ["word"] (defScope s_number_in) := ⟨rfl, rfl, rfl, by decide +kernel, rfl, by decide +kernel, by decide +kernel⟩
theorem t_number_in : fnT B_number_in (defScope s_number_in) = true := by decide +kernel
noncomputable def d_number_in : En → Sto → SR :=
    (sSeq (sSet 1 (eIf (tBl (eOp2 eqD (eSlice (eVar 0) pNo (pSome (eK (.int 1)))) (eK (.str "-")))) (eSlice (eVar 0) (pSome (eK (.int 1))) pNo) (eVar 0)))
    (sSeq (sIf (tOr2 (tNot1 (tBl (eChain leD leD (eK (.int 1)) (eOpN lenF (aCons (eVar 1) aNil)) (eK w_MOST_FIGURES)))) (tBl (eOp2 neD (eLc (cSeq (eVar 1)) (gN 3) (tBl (eOp2 niD (eVar 3) (eK w_FIGURES))) (eVar 3) [2, 3]) (eLst aNil)))) (sRet (eK .none)) sNil)
    (sSeq (sIf (tAnd2 (tBl (eOp2 eqD (eOp2 ixD (eVar 1) (eK (.int 0))) (eK (.str "0")))) (tOr2 (tBl (eOp2 neD (eVar 1) (eK (.str "0")))) (tBl (eOp2 neD (eVar 1) (eVar 0))))) (sRet (eK .none)) sNil)
    (sRet (eOpN intT (aCons (eVar 0) aNil))))))
noncomputable def m_number_in : List Wv → Sto → Rs Wv := mkF 1 4 d_number_in
theorem b_number_in {M : Md} {X : Cx} (T : Hs M)  (c : Cxt M X B_number_in 0) : DB X (defBody s_number_in) d_number_in :=
    (db_cons (ds_set c 1 rfl (by decide) (de_if (dt_cmp (o_eq c.roomH) (de_slice (de_var c 0 rfl (by decide)) do_no (do_some de_int)) de_str (nomark _)) (de_slice (de_var c 0 rfl (by decide)) (do_some de_int) do_no) (de_var c 0 rfl (by decide))))
    (db_cons (ds_if (DW.dt (dw_or (dt_not (dt_chain (o_le c.roomH) (o_le c.roomH) de_int (de_callB (id := "len") c c_len 0 rfl T.z_len (by decide +kernel) (da_cons (de_var c 1 rfl (by decide)) da_nil)) (q_MOST_FIGURES T c 1 rfl))) (dw_or1 (dt_cmp (o_ne c.roomH) (de_lc c (lc_ok c [(".0", 2), ("sign", 3)] [2, 3] [2, 3] ["FIGURES"] [] (by decide +kernel) (di_seq (de_var c 1 rfl (by decide))) (by decide) (fun _ c4 => (dg_name c4 [2, 3] 3 rfl (by decide) (by decide))) (fun _ c4 => (dts_one (dt_cmp (o_ni c4.roomH) (de_var c4 3 rfl (by decide)) (q_FIGURES T c4 0 rfl) rfl))) (fun _ c4 => (de_var c4 3 rfl (by decide))))) (de_lst da_nil) (nomark _))))) (db_one (ds_ret de_non)) db_nil)
    (db_cons (ds_if (DW.dt (dw_and (dt_cmp (o_eq c.roomH) (de_ix c.roomH (de_var c 1 rfl (by decide)) de_int (fun _ _ => rfl)) de_str (nomark _)) (dw_and1 (DW.dt (dw_or (dt_cmp (o_ne c.roomH) (de_var c 1 rfl (by decide)) de_str (nomark _)) (dw_or1 (dt_cmp (o_ne c.roomH) (de_var c 1 rfl (by decide)) (de_var c 0 rfl (by decide)) (nomark _)))))))) (db_one (ds_ret de_non)) db_nil)
    (db_one (ds_ret (de_callT (T := "int") c c_intT 2 rfl T.z_int (by decide +kernel) (da_cons (de_var c 0 rfl (by decide)) da_nil)))))))
theorem h_number_in {M : Md} (T : Hs M)  (F : TopFn M "number_in" s_number_in ["word"]) : Has M false 1 "number_in" ["word"] m_number_in := has_of F sc_number_in t_number_in rfl rfl (fun X c => b_number_in T  c)
abbrev s_Words_must : Stmt := clsMs (topS 47) 4
def B_Words_must : Tb := ⟨["self", "found"], [0, 1], [0, 1], [0, 1], ["NoText"], [], true, false, none⟩
theorem sc_Words_must : FnScope B_Words_must.N ["self", "found"] (defScope s_Words_must) := ⟨rfl, rfl, rfl, by decide +kernel, rfl, by decide +kernel, by decide +kernel⟩
theorem t_Words_must : fnT B_Words_must (defScope s_Words_must) = true := by decide +kernel
noncomputable def d_Words_must : En → Sto → SR :=
    (sSeq (sIf (tBl (eOp2 isND (eVar 1) (eK .none))) (sRaiseF "NoText" ["word"] (aCons (eOp2 subD (eFld (FnA.a "Words") "here" (eVar 0)) (eK (.int 1))) aNil)) sNil)
    (sRet (eVar 1)))
noncomputable def m_Words_must : List Wv → Sto → Rs Wv := mkF 2 2 d_Words_must
theorem b_Words_must {M : Md} {X : Cx} (T : Hs M)  (c : Cxt M X B_Words_must 2) : DB X (defBody s_Words_must) d_Words_must :=
    (db_cons (ds_if (dt_cmp o_isN (de_var c 1 rfl (by decide)) de_non (nomark _)) (db_one (ds_raiseF c (by decide) 0 rfl T.f_NoText (da_cons (de_bin o_sub (de_fld c T.cl_Words T.na_Words_here (de_var c 0 rfl (by decide))) de_int) da_nil))) db_nil)
    (db_one (ds_ret (de_var c 1 rfl (by decide)))))
theorem h_Words_must {M : Md} (T : Hs M)  (F : TopM M (FnA.a "Words") "must" "Words.must" s_Words_must ["self", "found"]) : HasM M false 3 (FnA.a "Words") "must" ["self", "found"] m_Words_must := hasM_of F sc_Words_must t_Words_must rfl rfl rfl (fun X c => b_Words_must T  c)
abbrev s_Words_take : Stmt := clsMs (topS 47) 3
def B_Words_take : Tb := ⟨["self"], [0], [0], [0], ["NoText"], [], true, false, none⟩
theorem sc_Words_take : FnScope B_Words_take.N ["self"] (defScope s_Words_take) := ⟨rfl, rfl, rfl, by decide +kernel, rfl, by decide +kernel, by decide +kernel⟩
theorem t_Words_take : fnT B_Words_take (defScope s_Words_take) = true := by decide +kernel
noncomputable def d_Words_take : En → Sto → SR :=
    (sSeq (sIf (tTru (eMth (FnA.a "Words") "is_over" m_Words_is_over (eVar 0) aNil)) (sRaiseF "NoText" ["word"] (aCons (eFld (FnA.a "Words") "here" (eVar 0)) aNil)) sNil)
    (sSeq (sAtt (FnA.a "Words") "here" (eVar 0) (eOp2 addD (eFld (FnA.a "Words") "here" (eVar 0)) (eK (.int 1))))
    (sRet (eOp2 ixD (eFld (FnA.a "Words") "words" (eVar 0)) (eOp2 subD (eFld (FnA.a "Words") "here" (eVar 0)) (eK (.int 1)))))))
noncomputable def m_Words_take : List Wv → Sto → Rs Wv := mkF 1 1 d_Words_take
theorem b_Words_take {M : Md} {X : Cx} (T : Hs M) (h_Words_is_over : HasM M false 1 (FnA.a "Words") "is_over" ["self"] m_Words_is_over) (c : Cxt M X B_Words_take 2) : DB X (defBody s_Words_take) d_Words_take :=
    (db_cons (ds_if (dt_val (dm_call0 c h_Words_is_over (by decide) T.cl_Words (fun z => nomatch z) (de_var c 0 rfl (by decide)))) (db_one (ds_raiseF c (by decide) 0 rfl T.f_NoText (da_cons (de_fld c T.cl_Words T.na_Words_here (de_var c 0 rfl (by decide))) da_nil))) db_nil)
    (db_cons (ds_fld c T.cl_Words T.na_Words_here (de_var c 0 rfl (by decide)) (de_bin o_add (de_fld c T.cl_Words T.na_Words_here (de_var c 0 rfl (by decide))) de_int))
    (db_one (ds_ret (de_ix c.roomH (de_fld c T.cl_Words T.na_Words_words (de_var c 0 rfl (by decide))) (de_bin o_sub (de_fld c T.cl_Words T.na_Words_here (de_var c 0 rfl (by decide))) de_int) (fun _ _ => rfl))))))
theorem h_Words_take {M : Md} (T : Hs M) (h_Words_is_over : HasM M false 1 (FnA.a "Words") "is_over" ["self"] m_Words_is_over) (F : TopM M (FnA.a "Words") "take" "Words.take" s_Words_take ["self"]) : HasM M false 3 (FnA.a "Words") "take" ["self"] m_Words_take := hasM_of F sc_Words_take t_Words_take rfl rfl rfl (fun X c => b_Words_take T h_Words_is_over c)
abbrev s_Words_read_number : Stmt := clsMs (topS 47) 5
def B_Words_read_number : Tb := ⟨["self"], [0], [0], [0], ["number_in"], [], true, false, none⟩
theorem sc_Words_read_number : FnScope B_Words_read_number.N ["self"] (defScope s_Words_read_number) := ⟨rfl, rfl, rfl, by decide +kernel, rfl, by decide +kernel, by decide +kernel⟩
theorem t_Words_read_number : fnT B_Words_read_number (defScope s_Words_read_number) = true := by decide +kernel
noncomputable def d_Words_read_number : En → Sto → SR :=
    (sRet (eMth (FnA.a "Words") "must" m_Words_must (eVar 0) (aCons (eCall m_number_in (aCons (eMth (FnA.a "Words") "take" m_Words_take (eVar 0) aNil) aNil)) aNil)))
noncomputable def m_Words_read_number : List Wv → Sto → Rs Wv := mkF 1 1 d_Words_read_number
theorem b_Words_read_number {M : Md} {X : Cx} (T : Hs M) (h_Words_must : HasM M false 3 (FnA.a "Words") "must" ["self", "found"] m_Words_must) (h_Words_take : HasM M false 3 (FnA.a "Words") "take" ["self"] m_Words_take) (h_number_in : Has M false 1 "number_in" ["word"] m_number_in) (c : Cxt M X B_Words_read_number 3) : DB X (defBody s_Words_read_number) d_Words_read_number :=
    (db_one (ds_ret (dm_call c h_Words_must (by decide) T.cl_Words (fun z => nomatch z) (de_var c 0 rfl (by decide)) (da_cons (de_fn c (h_number_in.up (by decide)) 0 rfl (da_cons (dm_call0 c h_Words_take (by decide) T.cl_Words (fun z => nomatch z) (de_var c 0 rfl (by decide))) da_nil)) da_nil))))
theorem h_Words_read_number {M : Md} (T : Hs M) (h_Words_must : HasM M false 3 (FnA.a "Words") "must" ["self", "found"] m_Words_must) (h_Words_take : HasM M false 3 (FnA.a "Words") "take" ["self"] m_Words_take) (h_number_in : Has M false 1 "number_in" ["word"] m_number_in) (F : TopM M (FnA.a "Words") "read_number" "Words.read_number" s_Words_read_number ["self"]) : HasM M false 4 (FnA.a "Words") "read_number" ["self"] m_Words_read_number := hasM_of F sc_Words_read_number t_Words_read_number rfl rfl rfl (fun X c => b_Words_read_number T h_Words_must h_Words_take h_number_in c)
abbrev s_Words_read_sign : Stmt := clsMs (topS 47) 6
def B_Words_read_sign : Tb := ⟨["self", "some", "word"], [0, 1, 2], [0, 1, 2], [0, 1, 2], [], [], true, false, none⟩
theorem sc_Words_read_sign : FnScope B_Words_read_sign.N ["self", "some"] (defScope s_Words_read_sign) := ⟨rfl, rfl, rfl, by decide +kernel, rfl, by decide +kernel, by decide +kernel⟩
theorem t_Words_read_sign : fnT B_Words_read_sign (defScope s_Words_read_sign) = true := by decide +kernel
noncomputable def d_Words_read_sign : En → Sto → SR :=
    (sSeq (sSet 2 (eMth (FnA.a "Words") "take" m_Words_take (eVar 0) aNil))
    (sRet (eMth (FnA.a "Words") "must" m_Words_must (eVar 0) (aCons (eIf (tBl (eOp2 inD (eVar 2) (eVar 1))) (eVar 2) (eK .none)) aNil))))
noncomputable def m_Words_read_sign : List Wv → Sto → Rs Wv := mkF 2 3 d_Words_read_sign
theorem b_Words_read_sign {M : Md} {X : Cx} (T : Hs M) (h_Words_must : HasM M false 3 (FnA.a "Words") "must" ["self", "found"] m_Words_must) (h_Words_take : HasM M false 3 (FnA.a "Words") "take" ["self"] m_Words_take) (c : Cxt M X B_Words_read_sign 3) : DB X (defBody s_Words_read_sign) d_Words_read_sign :=
    (db_cons (ds_set c 2 rfl (by decide) (dm_call0 c h_Words_take (by decide) T.cl_Words (fun z => nomatch z) (de_var c 0 rfl (by decide))))
    (db_one (ds_ret (dm_call c h_Words_must (by decide) T.cl_Words (fun z => nomatch z) (de_var c 0 rfl (by decide)) (da_cons (de_if (dt_cmp (o_in c.roomH) (de_var c 2 rfl (by decide)) (de_var c 1 rfl (by decide)) rfl) (de_var c 2 rfl (by decide)) de_non) da_nil)))))
theorem h_Words_read_sign {M : Md} (T : Hs M) (h_Words_must : HasM M false 3 (FnA.a "Words") "must" ["self", "found"] m_Words_must) (h_Words_take : HasM M false 3 (FnA.a "Words") "take" ["self"] m_Words_take) (F : TopM M (FnA.a "Words") "read_sign" "Words.read_sign" s_Words_read_sign ["self", "some"]) : HasM M false 4 (FnA.a "Words") "read_sign" ["self", "some"] m_Words_read_sign := hasM_of F sc_Words_read_sign t_Words_read_sign rfl rfl rfl (fun X c => b_Words_read_sign T h_Words_must h_Words_take c)
abbrev s_Words_read_path : Stmt := clsMs (topS 47) 7
def B_Words_read_path : Tb := ⟨["self", "x", "y", "legs"], [0, 1, 2, 3], [0, 1, 2, 3], [0, 1, 2, 3], ["WAYS_texts", "tuple"], [], true, false, none⟩
theorem sc_Words_read_path : FnScope B_Words_read_path.N ["self"] (defScope s_Words_read_path) := ⟨rfl, rfl, rfl, by decide +kernel, rfl, by decide +kernel, by decide +kernel⟩
theorem t_Words_read_path : fnT B_Words_read_path (defScope s_Words_read_path) = true := by decide +kernel
noncomputable def d_Words_read_path : En → Sto → SR :=
    (sSeq (sPar2 1 2 (aCons (eMth (FnA.a "Words") "read_number" m_Words_read_number (eVar 0) aNil) (aCons (eMth (FnA.a "Words") "read_number" m_Words_read_number (eVar 0) aNil) aNil)))
    (sSeq (sSet 3 (eNewL (aCons (eTup (aCons (eMth (FnA.a "Words") "read_sign" m_Words_read_sign (eVar 0) (aCons (eK w_WAYS_texts) aNil)) (aCons (eMth (FnA.a "Words") "read_number" m_Words_read_number (eVar 0) aNil) aNil))) aNil)))
    (sSeq (sWh 100000 (tTru (eMth (FnA.a "Words") "is_next" m_Words_is_next (eVar 0) (aCons (eK w_WAYS_texts) aNil))) (sExp (eM appW (eVar 3) (aCons (eTup (aCons (eMth (FnA.a "Words") "take" m_Words_take (eVar 0) aNil) (aCons (eMth (FnA.a "Words") "read_number" m_Words_read_number (eVar 0) aNil) aNil))) aNil))))
    (sRet (eTup (aCons (eVar 1) (aCons (eVar 2) (aCons (eOpN tupF (aCons (eVar 3) aNil)) aNil))))))))
noncomputable def m_Words_read_path : List Wv → Sto → Rs Wv := mkF 1 4 d_Words_read_path
theorem b_Words_read_path {M : Md} {X : Cx} (T : Hs M) (h_Words_is_next : HasM M false 2 (FnA.a "Words") "is_next" ["self", "some"] m_Words_is_next) (h_Words_read_number : HasM M false 4 (FnA.a "Words") "read_number" ["self"] m_Words_read_number) (h_Words_read_sign : HasM M false 4 (FnA.a "Words") "read_sign" ["self", "some"] m_Words_read_sign) (h_Words_take : HasM M false 3 (FnA.a "Words") "take" ["self"] m_Words_take) (c : Cxt M X B_Words_read_path 4) : DB X (defBody s_Words_read_path) d_Words_read_path :=
    (db_cons (ds_par2 c 1 2 rfl rfl (by decide) (isLoc c (i := 1) (by decide) rfl) (isLoc c (i := 2) (by decide) rfl) (da_cons (dm_call0 c h_Words_read_number (by decide) T.cl_Words (fun z => nomatch z) (de_var c 0 rfl (by decide))) (da_cons (dm_call0 c h_Words_read_number (by decide) T.cl_Words (fun z => nomatch z) (de_var c 0 rfl (by decide))) da_nil)) (sw2 c (i := 1) (j := 2) rfl rfl (by decide) (by decide) (by decide +kernel) rfl rfl (by intro _ _ h; cases h) (by intro _ _ h; cases h) rfl rfl))
    (db_cons (ds_set c 3 rfl (by decide) (de_newl (da_cons (de_tup (da_cons (dm_call c h_Words_read_sign (by decide) T.cl_Words (fun z => nomatch z) (de_var c 0 rfl (by decide)) (da_cons (q_WAYS_texts T c 0 rfl) da_nil)) (da_cons (dm_call0 c h_Words_read_number (by decide) T.cl_Words (fun z => nomatch z) (de_var c 0 rfl (by decide))) da_nil))) da_nil)))
    (db_cons (ds_wh c 100000 (dt_val (dm_call c h_Words_is_next (by decide) T.cl_Words (fun z => nomatch z) (de_var c 0 rfl (by decide)) (da_cons (q_WAYS_texts T c 0 rfl) da_nil))) (db_one (ds_exp (de_append (de_var c 3 rfl (by decide)) (da_cons (de_tup (da_cons (dm_call0 c h_Words_take (by decide) T.cl_Words (fun z => nomatch z) (de_var c 0 rfl (by decide))) (da_cons (dm_call0 c h_Words_read_number (by decide) T.cl_Words (fun z => nomatch z) (de_var c 0 rfl (by decide))) da_nil))) da_nil)))))
    (db_one (ds_ret (de_tup (da_cons (de_var c 1 rfl (by decide)) (da_cons (de_var c 2 rfl (by decide)) (da_cons (de_callT (T := "tuple") c c_tup 1 rfl T.z_tuple (by decide +kernel) (da_cons (de_var c 3 rfl (by decide)) da_nil)) da_nil)))))))))
theorem h_Words_read_path {M : Md} (T : Hs M) (h_Words_is_next : HasM M false 2 (FnA.a "Words") "is_next" ["self", "some"] m_Words_is_next) (h_Words_read_number : HasM M false 4 (FnA.a "Words") "read_number" ["self"] m_Words_read_number) (h_Words_read_sign : HasM M false 4 (FnA.a "Words") "read_sign" ["self", "some"] m_Words_read_sign) (h_Words_take : HasM M false 3 (FnA.a "Words") "take" ["self"] m_Words_take) (F : TopM M (FnA.a "Words") "read_path" "Words.read_path" s_Words_read_path ["self"]) : HasM M false 5 (FnA.a "Words") "read_path" ["self"] m_Words_read_path := hasM_of F sc_Words_read_path t_Words_read_path rfl rfl rfl (fun X c => b_Words_read_path T h_Words_is_next h_Words_read_number h_Words_read_sign h_Words_take c)
abbrev s_Words_end : Stmt := clsMs (topS 47) 10
def B_Words_end : Tb := ⟨["self", "found", "is_right"], [0, 1, 2], [0, 1, 2], [0, 1, 2], ["NoText"], [], true, false, none⟩
theorem sc_Words_end : FnScope B_Words_end.N ["self", "found", "is_right"] (defScope s_Words_end) := ⟨rfl, rfl, rfl, by decide +kernel, rfl, by decide +kernel, by decide +kernel⟩
theorem t_Words_end : fnT B_Words_end (defScope s_Words_end) = true := by decide +kernel
noncomputable def d_Words_end : En → Sto → SR :=
    (sSeq (sIf (tNot1 (tTru (eMth (FnA.a "Words") "is_over" m_Words_is_over (eVar 0) aNil))) (sRaiseF "NoText" ["word"] (aCons (eFld (FnA.a "Words") "here" (eVar 0)) aNil)) sNil)
    (sSeq (sIf (tNot1 (tTru (eVar 2))) (sRaiseF "NoText" ["word"] (aCons (eFld (FnA.a "Words") "here" (eVar 0)) aNil)) sNil)
    (sRet (eVar 1))))
noncomputable def m_Words_end : List Wv → Sto → Rs Wv := mkF 3 3 d_Words_end
theorem b_Words_end {M : Md} {X : Cx} (T : Hs M) (h_Words_is_over : HasM M false 1 (FnA.a "Words") "is_over" ["self"] m_Words_is_over) (c : Cxt M X B_Words_end 2) : DB X (defBody s_Words_end) d_Words_end :=
    (db_cons (ds_if (dt_not (dt_val (dm_call0 c h_Words_is_over (by decide) T.cl_Words (fun z => nomatch z) (de_var c 0 rfl (by decide))))) (db_one (ds_raiseF c (by decide) 0 rfl T.f_NoText (da_cons (de_fld c T.cl_Words T.na_Words_here (de_var c 0 rfl (by decide))) da_nil))) db_nil)
    (db_cons (ds_if (dt_not (dt_val (de_var c 2 rfl (by decide)))) (db_one (ds_raiseF c (by decide) 0 rfl T.f_NoText (da_cons (de_fld c T.cl_Words T.na_Words_here (de_var c 0 rfl (by decide))) da_nil))) db_nil)
    (db_one (ds_ret (de_var c 1 rfl (by decide))))))
theorem h_Words_end {M : Md} (T : Hs M) (h_Words_is_over : HasM M false 1 (FnA.a "Words") "is_over" ["self"] m_Words_is_over) (F : TopM M (FnA.a "Words") "end" "Words.end" s_Words_end ["self", "found", "is_right"]) : HasM M false 3 (FnA.a "Words") "end" ["self", "found", "is_right"] m_Words_end := hasM_of F sc_Words_end t_Words_end rfl rfl rfl (fun X c => b_Words_end T h_Words_is_over c)
abbrev s_path_read : Stmt := topS 48
def B_path_read : Tb := ⟨["text", "words", "found"], [0, 1, 2], [0, 1, 2], [0, 1, 2], ["Words", "is_path"], [], true, false, none⟩
theorem sc_path_read : FnScope B_path_read.N ["text"] (defScope s_path_read) := ⟨rfl, rfl, rfl, by decide +kernel, rfl, by decide +kernel, by decide +kernel⟩
theorem t_path_read : fnT B_path_read (defScope s_path_read) = true := by decide +kernel
noncomputable def d_path_read : En → Sto → SR :=
    (sSeq (sSet 1 (eMake (FnA.a "Words") m_Words___init__ (aCons (eVar 0) aNil)))
    (sSeq (sSet 2 (eMth (FnA.a "Words") "read_path" m_Words_read_path (eVar 1) aNil))
    (sRet (eMth (FnA.a "Words") "end" m_Words_end (eVar 1) (aCons (eVar 2) (aCons (eCall m_is_path (aCons (eVar 2) aNil)) aNil))))))
noncomputable def m_path_read : List Wv → Sto → Rs Wv := mkF 1 3 d_path_read
theorem b_path_read {M : Md} {X : Cx} (T : Hs M) (h_Words___init__ : HasM M false 3 (FnA.a "Words") "__init__" ["self", "text"] m_Words___init__) (h_Words_end : HasM M false 3 (FnA.a "Words") "end" ["self", "found", "is_right"] m_Words_end) (h_Words_read_path : HasM M false 5 (FnA.a "Words") "read_path" ["self"] m_Words_read_path) (h_is_path : Has M false 4 "is_path" ["thing"] m_is_path) (c : Cxt M X B_path_read 5) : DB X (defBody s_path_read) d_path_read :=
    (db_cons (ds_set c 1 rfl (by decide) (dm_make c h_Words___init__ (by decide) T.mk_Words T.kp_Words 0 rfl T.a_Words (da_cons (de_var c 0 rfl (by decide)) da_nil)))
    (db_cons (ds_set c 2 rfl (by decide) (dm_call0 c h_Words_read_path (by decide) T.cl_Words (fun z => nomatch z) (de_var c 1 rfl (by decide))))
    (db_one (ds_ret (dm_call c h_Words_end (by decide) T.cl_Words (fun z => nomatch z) (de_var c 1 rfl (by decide)) (da_cons (de_var c 2 rfl (by decide)) (da_cons (de_fn c (h_is_path.up (by decide)) 1 rfl (da_cons (de_var c 2 rfl (by decide)) da_nil)) da_nil)))))))
theorem h_path_read {M : Md} (T : Hs M) (h_Words___init__ : HasM M false 3 (FnA.a "Words") "__init__" ["self", "text"] m_Words___init__) (h_Words_end : HasM M false 3 (FnA.a "Words") "end" ["self", "found", "is_right"] m_Words_end) (h_Words_read_path : HasM M false 5 (FnA.a "Words") "read_path" ["self"] m_Words_read_path) (h_is_path : Has M false 4 "is_path" ["thing"] m_is_path) (F : TopFn M "path_read" s_path_read ["text"]) : Has M false 6 "path_read" ["text"] m_path_read := has_of F sc_path_read t_path_read rfl rfl (fun X c => b_path_read T h_Words___init__ h_Words_end h_Words_read_path h_is_path c)
abbrev s__law_sign : Stmt := topS 60
def B__law_sign : Tb := ⟨["_law_pen", "_law_signs"], [0, 1], [0, 1], [0, 1], ["_law_draw", "len"], [], true, false, none⟩
theorem sc__law_sign : FnScope B__law_sign.N ["_law_pen"] (defScope s__law_sign) := ⟨rfl, rfl, rfl, by decide +kernel, rfl, by decide +kernel, by decide +kernel⟩
theorem t__law_sign : fnT B__law_sign (defScope s__law_sign) = true := by decide +kernel
noncomputable def d__law_sign : En → Sto → SR :=
    (sSeq (sSet 1 (eK (.str " !\"#$&'()*+,-./0123456789:;<=>?@ABCDEFGHIJKLMNOPQRSTUVWXYZ[\\]^_`abcdefghijklmnopqrstuvwxyz{|}~\u0009\n")))
    (sRet (eOp2 ixD (eLst (aCons (eK (.str "\n")) (aCons (eK (.str "\u0009")) (aCons (eK (.str " ")) (aCons (eK (.str "0")) (aCons (eK (.str "-")) (aCons (eK (.str "/")) (aCons (eK (.str "+")) (aCons (eOp2 ixD (eVar 1) (eCall m__law_draw (aCons (eVar 0) (aCons (eOpN lenF (aCons (eVar 1) aNil)) aNil)))) aNil))))))))) (eCall m__law_draw (aCons (eVar 0) (aCons (eK (.int 8)) aNil))))))
noncomputable def m__law_sign : List Wv → Sto → Rs Wv := mkF 1 2 d__law_sign
theorem b__law_sign {M : Md} {X : Cx} (T : Hs M) (h__law_draw : Has M false 2 "_law_draw" ["_law_pen", "_law_many"] m__law_draw) (c : Cxt M X B__law_sign 2) : DB X (defBody s__law_sign) d__law_sign :=
    (db_cons (ds_set c 1 rfl (by decide) de_str)
    (db_one (ds_ret (de_ix c.roomH (de_lst (da_cons de_str (da_cons de_str (da_cons de_str (da_cons de_str (da_cons de_str (da_cons de_str (da_cons de_str (da_cons (de_ix c.roomH (de_var c 1 rfl (by decide)) (de_fn c (h__law_draw.up (by decide)) 0 rfl (da_cons (de_var c 0 rfl (by decide)) (da_cons (de_callB (id := "len") c c_len 1 rfl T.z_len (by decide +kernel) (da_cons (de_var c 1 rfl (by decide)) da_nil)) da_nil))) (fun _ _ => rfl)) da_nil))))))))) (de_fn c (h__law_draw.up (by decide)) 0 rfl (da_cons (de_var c 0 rfl (by decide)) (da_cons de_int da_nil))) (fun _ _ => rfl)))))
theorem h__law_sign {M : Md} (T : Hs M) (h__law_draw : Has M false 2 "_law_draw" ["_law_pen", "_law_many"] m__law_draw) (F : TopFn M "_law_sign" s__law_sign ["_law_pen"]) : Has M false 3 "_law_sign" ["_law_pen"] m__law_sign := has_of F sc__law_sign t__law_sign rfl rfl (fun X c => b__law_sign T h__law_draw c)
abbrev s__law_bent : Stmt := topS 61
def B__law_bent : Tb := ⟨["_law_pen", "_law_text", "_law_words", "_law_sign_here", "_law_at", "_law_spot", "_law_to", "_law_others", "_law_other", "_law_some", "_law_row", "_law_turned"], [0, 1, 2, 3, 4, 5, 6, 7, 8, 9, 10, 11], [0, 1, 2, 3, 4, 5, 6, 7, 8, 9, 10, 11], [0, 1, 2, 3, 4, 5, 6, 7, 8, 9, 10, 11], ["_law_sign", "_law_draw", "len", "list"], [], true, false, none⟩
theorem sc__law_bent : FnScope B__law_bent.N ["_law_pen", "_law_text"] (defScope s__law_bent) := ⟨rfl, rfl, rfl, by decide +kernel, rfl, by decide +kernel, by decide +kernel⟩
theorem t__law_bent : fnT B__law_bent (defScope s__law_bent) = true := by decide +kernel
noncomputable def d__law_bent_l1 : En → Sto → SR :=
    (sWp [10] (sExp (eM appW (eVar 9) (aCons (eT1 jnD (eK (.str " ")) (eVar 10)) aNil))))
noncomputable def d__law_bent_l2 : En → Sto → SR :=
    (sWp [10] (sExp (eM appW (eVar 9) (aCons (eT1 jnD (eK (.str " ")) (eVar 10)) aNil))))
noncomputable def d__law_bent : En → Sto → SR :=
    (sSeq (sPar2 2 3 (aCons (eT1 splD (eVar 1) (eK (.str " "))) (aCons (eCall m__law_sign (aCons (eVar 0) aNil)) aNil)))
    (sSeq (sPar3 4 5 6 (aCons (eCall m__law_draw (aCons (eVar 0) (aCons (eOp2 addD (eOpN lenF (aCons (eVar 1) aNil)) (eK (.int 1))) aNil))) (aCons (eCall m__law_draw (aCons (eVar 0) (aCons (eOpN lenF (aCons (eVar 2) aNil)) aNil))) (aCons (eCall m__law_draw (aCons (eVar 0) (aCons (eOpN lenF (aCons (eVar 2) aNil)) aNil))) aNil))))
    (sSeq (sSet 7 (eNewL (aCons (eK (.str "0")) (aCons (eK (.str "00")) (aCons (eK (.str "-0")) (aCons (eK (.str "-1")) (aCons (eK (.str "01")) (aCons (eK (.str "61")) (aCons (eK (.str "-")) (aCons (eK (.str "/")) (aCons (eK (.str "")) (aCons (eK (.str "east")) (aCons (eK (.str "west")) (aCons (eK (.str "North")) (aCons (eOp2 mulT (eK (.str "9")) (eK (.int 30))) (aCons (eOp2 mulT (eK (.str "9")) (eK (.int 31))) (aCons (eK (.str "1+1")) aNil)))))))))))))))))
    (sSeq (sExp (eM appW (eVar 7) (aCons (eK (.str "1.1.1*1")) aNil)))
    (sSeq (sSet 8 (eOp2 ixD (eVar 7) (eCall m__law_draw (aCons (eVar 0) (aCons (eOpN lenF (aCons (eVar 7) aNil)) aNil)))))
    (sSeq (sSet 9 (eNewL (aCons (eOp2 addD (eOp2 addD (eSlice (eVar 1) pNo (pSome (eVar 4))) (eVar 3)) (eSlice (eVar 1) (pSome (eVar 4)) pNo)) (aCons (eOp2 addD (eOp2 addD (eSlice (eVar 1) pNo (pSome (eVar 4))) (eVar 3)) (eSlice (eVar 1) (pSome (eOp2 addD (eVar 4) (eK (.int 1)))) pNo)) (aCons (eOp2 addD (eVar 1) (eVar 3)) (aCons (eOp2 addD (eVar 3) (eVar 1)) aNil))))))
    (sSeq (sWi [10] (sFor (cSeq (eLst (aCons (eOp2 addD (eOp2 addD (eSlice (eVar 2) pNo (pSome (eVar 5))) (eLst (aCons (eVar 8) aNil))) (eSlice (eVar 2) (pSome (eOp2 addD (eVar 5) (eK (.int 1)))) pNo)) (aCons (eOp2 addD (eOp2 addD (eSlice (eVar 2) pNo (pSome (eVar 5))) (eLst (aCons (eVar 8) aNil))) (eSlice (eVar 2) (pSome (eVar 5)) pNo)) (aCons (eSlice (eVar 2) pNo (pSome (eVar 5))) aNil))))) (gN 10) d__law_bent_l1))
    (sSeq (sWi [10] (sFor (cSeq (eLst (aCons (eOp2 addD (eSlice (eVar 2) pNo (pSome (eVar 5))) (eSlice (eVar 2) (pSome (eOp2 addD (eVar 5) (eK (.int 1)))) pNo)) (aCons (eOp2 addD (eVar 2) (eSlice (eVar 2) (pSome (eVar 5)) (pSome (eOp2 addD (eVar 5) (eK (.int 1)))))) (aCons (eOp2 addD (eSlice (eVar 2) (pSome (eVar 5)) pNo) (eSlice (eVar 2) pNo (pSome (eVar 5)))) aNil))))) (gN 10) d__law_bent_l2))
    (sSeq (sSet 11 (eOpNN lstN (aCons (eVar 2) aNil)))
    (sSeq (sSwp (eVar 11) (eVar 5) (eVar 11) (eVar 6) (aCons (eOp2 ixD (eVar 11) (eVar 6)) (aCons (eOp2 ixD (eVar 11) (eVar 5)) aNil)))
    (sRet (eOp2 ixD (eOp2 addD (eVar 9) (eLst (aCons (eT1 jnD (eK (.str " ")) (eVar 11)) (aCons (eT0 upD (eVar 1)) (aCons (eT1 jnD (eK (.str " ")) (eOp2 addD (eVar 2) (eVar 2))) aNil))))) (eCall m__law_draw (aCons (eVar 0) (aCons (eK (.int 13)) aNil)))))))))))))))
noncomputable def m__law_bent : List Wv → Sto → Rs Wv := mkF 2 12 d__law_bent
theorem b__law_bent {M : Md} {X : Cx} (T : Hs M) (h__law_draw : Has M false 2 "_law_draw" ["_law_pen", "_law_many"] m__law_draw) (h__law_sign : Has M false 3 "_law_sign" ["_law_pen"] m__law_sign) (c : Cxt M X B__law_bent 3) : DB X (defBody s__law_bent) d__law_bent :=
    (db_cons (ds_par2 c 2 3 rfl rfl (by decide) (isLoc c (i := 2) (by decide) rfl) (isLoc c (i := 3) (by decide) rfl) (da_cons (de_split (de_var c 1 rfl (by decide)) de_str) (da_cons (de_fn c (h__law_sign.up (by decide)) 0 rfl (da_cons (de_var c 0 rfl (by decide)) da_nil)) da_nil)) (sw2 c (i := 2) (j := 3) rfl rfl (by decide) (by decide) (by decide +kernel) rfl rfl (by intro _ _ h; cases h) (by intro _ _ h; cases h) rfl rfl))
    (db_cons (ds_par3 c 4 5 6 rfl rfl rfl (by decide) (by decide) (by decide) (isLoc c (i := 4) (by decide) rfl) (isLoc c (i := 5) (by decide) rfl) (isLoc c (i := 6) (by decide) rfl) (da_cons (de_fn c (h__law_draw.up (by decide)) 1 rfl (da_cons (de_var c 0 rfl (by decide)) (da_cons (de_bin o_add (de_callB (id := "len") c c_len 2 rfl T.z_len (by decide +kernel) (da_cons (de_var c 1 rfl (by decide)) da_nil)) de_int) da_nil))) (da_cons (de_fn c (h__law_draw.up (by decide)) 1 rfl (da_cons (de_var c 0 rfl (by decide)) (da_cons (de_callB (id := "len") c c_len 2 rfl T.z_len (by decide +kernel) (da_cons (de_var c 2 rfl (by decide)) da_nil)) da_nil))) (da_cons (de_fn c (h__law_draw.up (by decide)) 1 rfl (da_cons (de_var c 0 rfl (by decide)) (da_cons (de_callB (id := "len") c c_len 2 rfl T.z_len (by decide +kernel) (da_cons (de_var c 2 rfl (by decide)) da_nil)) da_nil))) da_nil))) (sw3 c (i := 4) (j := 5) (l := 6) rfl rfl rfl (by decide) (by decide) (by decide) (by decide +kernel) rfl rfl rfl (by intro _ _ h; cases h) (by intro _ _ h; cases h) (by intro _ _ h; cases h) rfl rfl))
    (db_cons (ds_set c 7 rfl (by decide) (de_newl (da_cons de_str (da_cons de_str (da_cons de_str (da_cons de_str (da_cons de_str (da_cons de_str (da_cons de_str (da_cons de_str (da_cons de_str (da_cons de_str (da_cons de_str (da_cons de_str (da_cons (de_bin o_mulT de_str de_int) (da_cons (de_bin o_mulT de_str de_int) (da_cons de_str da_nil)))))))))))))))))
    (db_cons (ds_exp (de_append (de_var c 7 rfl (by decide)) (da_cons de_str da_nil)))
    (db_cons (ds_set c 8 rfl (by decide) (de_ix c.roomH (de_var c 7 rfl (by decide)) (de_fn c (h__law_draw.up (by decide)) 1 rfl (da_cons (de_var c 0 rfl (by decide)) (da_cons (de_callB (id := "len") c c_len 2 rfl T.z_len (by decide +kernel) (da_cons (de_var c 7 rfl (by decide)) da_nil)) da_nil))) (fun _ _ => rfl)))
    (db_cons (ds_set c 9 rfl (by decide) (de_newl (da_cons (de_bin o_add (de_bin o_add (de_slice (de_var c 1 rfl (by decide)) do_no (do_some (de_var c 4 rfl (by decide)))) (de_var c 3 rfl (by decide))) (de_slice (de_var c 1 rfl (by decide)) (do_some (de_var c 4 rfl (by decide))) do_no)) (da_cons (de_bin o_add (de_bin o_add (de_slice (de_var c 1 rfl (by decide)) do_no (do_some (de_var c 4 rfl (by decide)))) (de_var c 3 rfl (by decide))) (de_slice (de_var c 1 rfl (by decide)) (do_some (de_bin o_add (de_var c 4 rfl (by decide)) de_int)) do_no)) (da_cons (de_bin o_add (de_var c 1 rfl (by decide)) (de_var c 3 rfl (by decide))) (da_cons (de_bin o_add (de_var c 3 rfl (by decide)) (de_var c 1 rfl (by decide))) da_nil))))))
    (db_cons (ds_wi [10] (ds_for c [10] (di_seq (de_lst (da_cons (de_bin o_add (de_bin o_add (de_slice (de_var c 2 rfl (by decide)) do_no (do_some (de_var c 5 rfl (by decide)))) (de_lst (da_cons (de_var c 8 rfl (by decide)) da_nil))) (de_slice (de_var c 2 rfl (by decide)) (do_some (de_bin o_add (de_var c 5 rfl (by decide)) de_int)) do_no)) (da_cons (de_bin o_add (de_bin o_add (de_slice (de_var c 2 rfl (by decide)) do_no (do_some (de_var c 5 rfl (by decide)))) (de_lst (da_cons (de_var c 8 rfl (by decide)) da_nil))) (de_slice (de_var c 2 rfl (by decide)) (do_some (de_var c 5 rfl (by decide))) do_no)) (da_cons (de_slice (de_var c 2 rfl (by decide)) do_no (do_some (de_var c 5 rfl (by decide)))) da_nil))))) (dg_name c [10] 10 rfl (by decide) (by decide))
    (db_wp [10] (db_one (ds_exp (de_append (de_var c 9 rfl (by decide)) (da_cons (de_join de_str (de_var c 10 rfl (by decide))) da_nil)))))))
    (db_cons (ds_wi [10] (ds_for c [10] (di_seq (de_lst (da_cons (de_bin o_add (de_slice (de_var c 2 rfl (by decide)) do_no (do_some (de_var c 5 rfl (by decide)))) (de_slice (de_var c 2 rfl (by decide)) (do_some (de_bin o_add (de_var c 5 rfl (by decide)) de_int)) do_no)) (da_cons (de_bin o_add (de_var c 2 rfl (by decide)) (de_slice (de_var c 2 rfl (by decide)) (do_some (de_var c 5 rfl (by decide))) (do_some (de_bin o_add (de_var c 5 rfl (by decide)) de_int)))) (da_cons (de_bin o_add (de_slice (de_var c 2 rfl (by decide)) (do_some (de_var c 5 rfl (by decide))) do_no) (de_slice (de_var c 2 rfl (by decide)) do_no (do_some (de_var c 5 rfl (by decide))))) da_nil))))) (dg_name c [10] 10 rfl (by decide) (by decide))
    (db_wp [10] (db_one (ds_exp (de_append (de_var c 9 rfl (by decide)) (da_cons (de_join de_str (de_var c 10 rfl (by decide))) da_nil)))))))
    (db_cons (ds_set c 11 rfl (by decide) (de_lstN c 3 rfl T.z_list (da_cons (de_var c 2 rfl (by decide)) da_nil)))
    (db_cons (ds_swp c (de_var c 11 rfl (by decide)) (de_var c 5 rfl (by decide)) (de_var c 11 rfl (by decide)) (de_var c 6 rfl (by decide)) (da_cons (de_ix c.roomH (de_var c 11 rfl (by decide)) (de_var c 6 rfl (by decide)) (fun _ _ => rfl)) (da_cons (de_ix c.roomH (de_var c 11 rfl (by decide)) (de_var c 5 rfl (by decide)) (fun _ _ => rfl)) da_nil)))
    (db_one (ds_ret (de_ix c.roomH (de_bin o_add (de_var c 9 rfl (by decide)) (de_lst (da_cons (de_join de_str (de_var c 11 rfl (by decide))) (da_cons (de_upper (de_var c 1 rfl (by decide))) (da_cons (de_join de_str (de_bin o_add (de_var c 2 rfl (by decide)) (de_var c 2 rfl (by decide)))) da_nil))))) (de_fn c (h__law_draw.up (by decide)) 1 rfl (da_cons (de_var c 0 rfl (by decide)) (da_cons de_int da_nil))) (fun _ _ => rfl))))))))))))))
theorem h__law_bent {M : Md} (T : Hs M) (h__law_draw : Has M false 2 "_law_draw" ["_law_pen", "_law_many"] m__law_draw) (h__law_sign : Has M false 3 "_law_sign" ["_law_pen"] m__law_sign) (F : TopFn M "_law_bent" s__law_bent ["_law_pen", "_law_text"]) : Has M false 4 "_law_bent" ["_law_pen", "_law_text"] m__law_bent := has_of F sc__law_bent t__law_bent rfl rfl (fun X c => b__law_bent T h__law_draw h__law_sign c)
abbrev s__law_number : Stmt := topS 57
def B__law_number : Tb := ⟨["_law_word", "_law_bare", ".0", "_law_sign_here"], [0, 1], [0, 1], [0, 1], ["len", "int"], [], true, false, none⟩
theorem sc__law_number : FnScope B__law_number.N ["_law_word"] (defScope s__law_number) := ⟨rfl, rfl, rfl, by decide +kernel, rfl, by decide +kernel, by decide +kernel⟩
theorem t__law_number : fnT B__law_number (defScope s__law_number) = true := by decide +kernel
noncomputable def d__law_number : En → Sto → SR :=
    (sSeq (sSet 1 (eIf (tBl (eOp2 eqD (eSlice (eVar 0) pNo (pSome (eK (.int 1)))) (eK (.str "-")))) (eSlice (eVar 0) (pSome (eK (.int 1))) pNo) (eVar 0)))
    (sSeq (sIf (tOr2 (tBl (eOp2 eqD (eVar 1) (eK (.str "")))) (tOr2 (tBl (eOp2 gtD (eOpN lenF (aCons (eVar 1) aNil)) (eK (.int 30)))) (tBl (eOp2 neD (eLc (cSeq (eVar 1)) (gN 3) (tBl (eOp2 niD (eVar 3) (eK (.str "0123456789")))) (eVar 3) [2, 3]) (eLst aNil))))) (sRet (eK .none)) sNil)
    (sRet (eIf (tOr2 (tBl (eOp2 neD (eOp2 ixD (eVar 1) (eK (.int 0))) (eK (.str "0")))) (tBl (eOp2 eqD (eVar 0) (eK (.str "0"))))) (eOpN intT (aCons (eVar 0) aNil)) (eK .none)))))
noncomputable def m__law_number : List Wv → Sto → Rs Wv := mkF 1 4 d__law_number
theorem b__law_number {M : Md} {X : Cx} (T : Hs M)  (c : Cxt M X B__law_number 0) : DB X (defBody s__law_number) d__law_number :=
    (db_cons (ds_set c 1 rfl (by decide) (de_if (dt_cmp (o_eq c.roomH) (de_slice (de_var c 0 rfl (by decide)) do_no (do_some de_int)) de_str (nomark _)) (de_slice (de_var c 0 rfl (by decide)) (do_some de_int) do_no) (de_var c 0 rfl (by decide))))
    (db_cons (ds_if (DW.dt (dw_or (dt_cmp (o_eq c.roomH) (de_var c 1 rfl (by decide)) de_str (nomark _)) (dw_or (dt_cmp (o_gt c.roomH) (de_callB (id := "len") c c_len 0 rfl T.z_len (by decide +kernel) (da_cons (de_var c 1 rfl (by decide)) da_nil)) de_int (nomark _)) (dw_or1 (dt_cmp (o_ne c.roomH) (de_lc c (lc_ok c [(".0", 2), ("_law_sign_here", 3)] [2, 3] [2, 3] [] [] (by decide +kernel) (di_seq (de_var c 1 rfl (by decide))) (by decide) (fun _ c5 => (dg_name c5 [2, 3] 3 rfl (by decide) (by decide))) (fun _ c5 => (dts_one (dt_cmp (o_ni c5.roomH) (de_var c5 3 rfl (by decide)) de_str rfl))) (fun _ c5 => (de_var c5 3 rfl (by decide))))) (de_lst da_nil) (nomark _)))))) (db_one (ds_ret de_non)) db_nil)
    (db_one (ds_ret (de_if (DW.dt (dw_or (dt_cmp (o_ne c.roomH) (de_ix c.roomH (de_var c 1 rfl (by decide)) de_int (fun _ _ => rfl)) de_str (nomark _)) (dw_or1 (dt_cmp (o_eq c.roomH) (de_var c 0 rfl (by decide)) de_str (nomark _))))) (de_callT (T := "int") c c_intT 1 rfl T.z_int (by decide +kernel) (da_cons (de_var c 0 rfl (by decide)) da_nil)) de_non)))))
theorem h__law_number {M : Md} (T : Hs M)  (F : TopFn M "_law_number" s__law_number ["_law_word"]) : Has M false 1 "_law_number" ["_law_word"] m__law_number := has_of F sc__law_number t__law_number rfl rfl (fun X c => b__law_number T  c)
abbrev s__law_path_form : Stmt := topS 58
def B__law_path_form : Tb := ⟨["_law_words", "_law_ways", "_law_legs", "_law_at", "_law_place"], [0, 1, 2, 3, 4], [0, 1, 2, 3, 4], [0, 1, 2, 3, 4], ["range", "len", "_law_number", "tuple"], [], true, false, none⟩
theorem sc__law_path_form : FnScope B__law_path_form.N ["_law_words"] (defScope s__law_path_form) := ⟨rfl, rfl, rfl, by decide +kernel, rfl, by decide +kernel, by decide +kernel⟩
theorem t__law_path_form : fnT B__law_path_form (defScope s__law_path_form) = true := by decide +kernel
noncomputable def d__law_path_form_l1 : En → Sto → SR :=
    (sWp [4] (sIf (tOr2 (tBl (eOp2 geD (eVar 4) (eOpN lenF (aCons (eVar 0) aNil)))) (tBl (eOp2 isND (eCall m__law_number (aCons (eOp2 ixD (eVar 0) (eVar 4)) aNil)) (eK .none)))) (sRet (eTup (aCons (eK (.str "text")) (aCons (eVar 4) aNil)))) sNil))
noncomputable def d__law_path_form : En → Sto → SR :=
    (sSeq (sPar3 1 2 3 (aCons (eLst (aCons (eK (.str "east")) (aCons (eK (.str "north")) (aCons (eK (.str "west")) (aCons (eK (.str "south")) aNil))))) (aCons (eNewL aNil) (aCons (eK (.int 2)) aNil))))
    (sSeq (sFor (cRg1 (aCons (eK (.int 2)) aNil)) (gN 4) d__law_path_form_l1)
    (sSeq (sWh 100000 (tOr2 (tBl (eOp2 eqD (eVar 2) (eLst aNil))) (tAnd2 (tBl (eOp2 ltD (eVar 3) (eOpN lenF (aCons (eVar 0) aNil)))) (tBl (eOp2 inD (eOp2 ixD (eVar 0) (eVar 3)) (eVar 1))))) (sSeq (sIf (tOr2 (tBl (eOp2 geD (eVar 3) (eOpN lenF (aCons (eVar 0) aNil)))) (tBl (eOp2 niD (eOp2 ixD (eVar 0) (eVar 3)) (eVar 1)))) (sRet (eTup (aCons (eK (.str "text")) (aCons (eVar 3) aNil)))) sNil)
    (sSeq (sIf (tOr2 (tBl (eOp2 geD (eOp2 addD (eVar 3) (eK (.int 1))) (eOpN lenF (aCons (eVar 0) aNil)))) (tBl (eOp2 isND (eCall m__law_number (aCons (eOp2 ixD (eVar 0) (eOp2 addD (eVar 3) (eK (.int 1)))) aNil)) (eK .none)))) (sRet (eTup (aCons (eK (.str "text")) (aCons (eOp2 addD (eVar 3) (eK (.int 1))) aNil)))) sNil)
    (sSeq (sExp (eM appW (eVar 2) (aCons (eTup (aCons (eOp2 ixD (eVar 0) (eVar 3)) (aCons (eCall m__law_number (aCons (eOp2 ixD (eVar 0) (eOp2 addD (eVar 3) (eK (.int 1)))) aNil)) aNil))) aNil)))
    (sSet 3 (eOp2 addD (eVar 3) (eK (.int 2))))))))
    (sRet (eTup (aCons (eTup (aCons (eCall m__law_number (aCons (eOp2 ixD (eVar 0) (eK (.int 0))) aNil)) (aCons (eCall m__law_number (aCons (eOp2 ixD (eVar 0) (eK (.int 1))) aNil)) (aCons (eOpN tupF (aCons (eVar 2) aNil)) aNil)))) (aCons (eVar 3) aNil)))))))
noncomputable def m__law_path_form : List Wv → Sto → Rs Wv := mkF 1 5 d__law_path_form
theorem b__law_path_form {M : Md} {X : Cx} (T : Hs M) (h__law_number : Has M false 1 "_law_number" ["_law_word"] m__law_number) (c : Cxt M X B__law_path_form 1) : DB X (defBody s__law_path_form) d__law_path_form :=
    (db_cons (ds_par3 c 1 2 3 rfl rfl rfl (by decide) (by decide) (by decide) (isLoc c (i := 1) (by decide) rfl) (isLoc c (i := 2) (by decide) rfl) (isLoc c (i := 3) (by decide) rfl) (da_cons (de_lst (da_cons de_str (da_cons de_str (da_cons de_str (da_cons de_str da_nil))))) (da_cons (de_newl da_nil) (da_cons de_int da_nil))) (sw3 c (i := 1) (j := 2) (l := 3) rfl rfl rfl (by decide) (by decide) (by decide) (by decide +kernel) rfl rfl rfl (by intro _ _ h; cases h) (by intro _ _ h; cases h) (by intro _ _ h; cases h) rfl rfl))
    (db_cons (ds_for c [4] (di_range1 c 0 rfl T.z_range (da_cons de_int da_nil)) (dg_name c [4] 4 rfl (by decide) (by decide))
    (db_wp [4] (db_one (ds_if (DW.dt (dw_or (dt_cmp (o_ge c.roomH) (de_var c 4 rfl (by decide)) (de_callB (id := "len") c c_len 1 rfl T.z_len (by decide +kernel) (da_cons (de_var c 0 rfl (by decide)) da_nil)) (nomark _)) (dw_or1 (dt_cmp o_isN (de_fn c (h__law_number.up (by decide)) 2 rfl (da_cons (de_ix c.roomH (de_var c 0 rfl (by decide)) (de_var c 4 rfl (by decide)) (fun _ _ => rfl)) da_nil)) de_non (nomark _))))) (db_one (ds_ret (de_tup (da_cons de_str (da_cons (de_var c 4 rfl (by decide)) da_nil))))) db_nil))))
    (db_cons (ds_wh c 100000 (DW.dt (dw_or (dt_cmp (o_eq c.roomH) (de_var c 2 rfl (by decide)) (de_lst da_nil) (nomark _)) (dw_or1 (DW.dt (dw_and (dt_cmp (o_lt c.roomH) (de_var c 3 rfl (by decide)) (de_callB (id := "len") c c_len 1 rfl T.z_len (by decide +kernel) (da_cons (de_var c 0 rfl (by decide)) da_nil)) (nomark _)) (dw_and1 (dt_cmp (o_in c.roomH) (de_ix c.roomH (de_var c 0 rfl (by decide)) (de_var c 3 rfl (by decide)) (fun _ _ => rfl)) (de_var c 1 rfl (by decide)) rfl))))))) (db_cons (ds_if (DW.dt (dw_or (dt_cmp (o_ge c.roomH) (de_var c 3 rfl (by decide)) (de_callB (id := "len") c c_len 1 rfl T.z_len (by decide +kernel) (da_cons (de_var c 0 rfl (by decide)) da_nil)) (nomark _)) (dw_or1 (dt_cmp (o_ni c.roomH) (de_ix c.roomH (de_var c 0 rfl (by decide)) (de_var c 3 rfl (by decide)) (fun _ _ => rfl)) (de_var c 1 rfl (by decide)) rfl)))) (db_one (ds_ret (de_tup (da_cons de_str (da_cons (de_var c 3 rfl (by decide)) da_nil))))) db_nil)
    (db_cons (ds_if (DW.dt (dw_or (dt_cmp (o_ge c.roomH) (de_bin o_add (de_var c 3 rfl (by decide)) de_int) (de_callB (id := "len") c c_len 1 rfl T.z_len (by decide +kernel) (da_cons (de_var c 0 rfl (by decide)) da_nil)) (nomark _)) (dw_or1 (dt_cmp o_isN (de_fn c (h__law_number.up (by decide)) 2 rfl (da_cons (de_ix c.roomH (de_var c 0 rfl (by decide)) (de_bin o_add (de_var c 3 rfl (by decide)) de_int) (fun _ _ => rfl)) da_nil)) de_non (nomark _))))) (db_one (ds_ret (de_tup (da_cons de_str (da_cons (de_bin o_add (de_var c 3 rfl (by decide)) de_int) da_nil))))) db_nil)
    (db_cons (ds_exp (de_append (de_var c 2 rfl (by decide)) (da_cons (de_tup (da_cons (de_ix c.roomH (de_var c 0 rfl (by decide)) (de_var c 3 rfl (by decide)) (fun _ _ => rfl)) (da_cons (de_fn c (h__law_number.up (by decide)) 2 rfl (da_cons (de_ix c.roomH (de_var c 0 rfl (by decide)) (de_bin o_add (de_var c 3 rfl (by decide)) de_int) (fun _ _ => rfl)) da_nil)) da_nil))) da_nil)))
    (db_one (ds_set c 3 rfl (by decide) (de_bin o_add (de_var c 3 rfl (by decide)) de_int)))))))
    (db_one (ds_ret (de_tup (da_cons (de_tup (da_cons (de_fn c (h__law_number.up (by decide)) 2 rfl (da_cons (de_ix c.roomH (de_var c 0 rfl (by decide)) de_int (fun _ _ => rfl)) da_nil)) (da_cons (de_fn c (h__law_number.up (by decide)) 2 rfl (da_cons (de_ix c.roomH (de_var c 0 rfl (by decide)) de_int (fun _ _ => rfl)) da_nil)) (da_cons (de_callT (T := "tuple") c c_tup 3 rfl T.z_tuple (by decide +kernel) (da_cons (de_var c 2 rfl (by decide)) da_nil)) da_nil)))) (da_cons (de_var c 3 rfl (by decide)) da_nil))))))))
theorem h__law_path_form {M : Md} (T : Hs M) (h__law_number : Has M false 1 "_law_number" ["_law_word"] m__law_number) (F : TopFn M "_law_path_form" s__law_path_form ["_law_words"]) : Has M false 2 "_law_path_form" ["_law_words"] m__law_path_form := has_of F sc__law_path_form t__law_path_form rfl rfl (fun X c => b__law_path_form T h__law_number c)
abbrev s__law_is_path : Stmt := topS 59
def B__law_is_path : Tb := ⟨["_law_path_here", "_law_ways", ".0", "_law_way", "_law_long", "_law_one", "_law_after"], [0, 1], [0, 1], [0], ["max", "min", "len", "all", "zip"], ["_law_ways"], true, false, none⟩
theorem sc__law_is_path : FnScope B__law_is_path.N ["_law_path_here"] (defScope s__law_is_path) := ⟨rfl, rfl, rfl, by decide +kernel, rfl, by decide +kernel, by decide +kernel⟩
theorem t__law_is_path : fnT B__law_is_path (defScope s__law_is_path) = true := by decide +kernel
noncomputable def d__law_is_path : En → Sto → SR :=
    (sSeq (sSet 1 (eLst (aCons (eK (.str "east")) (aCons (eK (.str "north")) (aCons (eK (.str "west")) (aCons (eK (.str "south")) aNil))))))
    (sSeq (sIf (tOr2 (tBl (eOp2 gtD (eOpN max2F (aCons (eOp2 ixD (eVar 0) (eK (.int 0))) (aCons (eOp2 ixD (eVar 0) (eK (.int 1))) aNil))) (eK (.int 1000)))) (tOr2 (tBl (eOp2 ltD (eOpN min2F (aCons (eOp2 ixD (eVar 0) (eK (.int 0))) (aCons (eOp2 ixD (eVar 0) (eK (.int 1))) aNil))) (eOp1 negD (eK (.int 1000))))) (tBl (eOp2 gtD (eOpN lenF (aCons (eOp2 ixD (eVar 0) (eK (.int 2))) aNil)) (eK (.int 6)))))) (sRet (eK (.bool false))) sNil)
    (sSeq (sIf (tBl (eOp2 neD (eLc (cSeq (eOp2 ixD (eVar 0) (eK (.int 2)))) (gTp (gCn (gN 3) (gCn (gN 4) gNl))) (tNot1 (tBl (eChain leD leD (eK (.int 1)) (eVar 4) (eK (.int 60))))) (eVar 4) [2, 3, 4]) (eLst aNil))) (sRet (eK (.bool false))) sNil)
    (sRet (eOpN allF (aCons (eLc (cZip2 (aCons (eOp2 ixD (eVar 0) (eK (.int 2))) (aCons (eSlice (eOp2 ixD (eVar 0) (eK (.int 2))) (pSome (eK (.int 1))) pNo) aNil))) (gTp (gCn (gN 5) (gCn (gN 6) gNl))) tYs (eOp2 eqD (eOp2 modD (eOp2 addD (eMd ixtS (eVar 1) (aCons (eOp2 ixD (eVar 5) (eK (.int 0))) aNil)) (eMd ixtS (eVar 1) (aCons (eOp2 ixD (eVar 6) (eK (.int 0))) aNil))) (eK (.int 2))) (eK (.int 1))) [2, 5, 6]) aNil))))))
noncomputable def m__law_is_path : List Wv → Sto → Rs Wv := mkF 1 7 d__law_is_path
theorem b__law_is_path {M : Md} {X : Cx} (T : Hs M)  (c : Cxt M X B__law_is_path 0) : DB X (defBody s__law_is_path) d__law_is_path :=
    (db_cons (ds_set c 1 rfl (by decide) (de_lst (da_cons de_str (da_cons de_str (da_cons de_str (da_cons de_str da_nil))))))
    (db_cons (ds_if (DW.dt (dw_or (dt_cmp (o_gt c.roomH) (de_callB (id := "max") c (c_max2 c.calm) 0 rfl T.z_max (by decide +kernel) (da_cons (de_ix c.roomH (de_var c 0 rfl (by decide)) de_int (fun _ _ => rfl)) (da_cons (de_ix c.roomH (de_var c 0 rfl (by decide)) de_int (fun _ _ => rfl)) da_nil))) de_int (nomark _)) (dw_or (dt_cmp (o_lt c.roomH) (de_callB (id := "min") c (c_min2 c.calm) 1 rfl T.z_min (by decide +kernel) (da_cons (de_ix c.roomH (de_var c 0 rfl (by decide)) de_int (fun _ _ => rfl)) (da_cons (de_ix c.roomH (de_var c 0 rfl (by decide)) de_int (fun _ _ => rfl)) da_nil))) (de_un o_neg de_int) (nomark _)) (dw_or1 (dt_cmp (o_gt c.roomH) (de_callB (id := "len") c c_len 2 rfl T.z_len (by decide +kernel) (da_cons (de_ix c.roomH (de_var c 0 rfl (by decide)) de_int (fun _ _ => rfl)) da_nil)) de_int (nomark _)))))) (db_one (ds_ret de_bl)) db_nil)
    (db_cons (ds_if (dt_cmp (o_ne c.roomH) (de_lc c (lc_ok c [(".0", 2), ("_law_way", 3), ("_law_long", 4)] [2, 3, 4] [2, 3, 4] [] [] (by decide +kernel) (di_seq (de_ix c.roomH (de_var c 0 rfl (by decide)) de_int (fun _ _ => rfl))) (by decide) (fun _ c6 => (dg_tup c6 (dgs_cons (dg_name c6 [2, 3, 4] 3 rfl (by decide) (by decide)) (dgs_cons (dg_name c6 [2, 3, 4] 4 rfl (by decide) (by decide)) (dgs_nil [2, 3, 4]))) (asks_cons (asks_cons asks_nil)))) (fun _ c6 => (dts_one (dt_not (dt_chain (o_le c6.roomH) (o_le c6.roomH) de_int (de_var c6 4 rfl (by decide)) de_int)))) (fun _ c6 => (de_var c6 4 rfl (by decide))))) (de_lst da_nil) (nomark _)) (db_one (ds_ret de_bl)) db_nil)
    (db_one (ds_ret (de_callB (id := "all") c (c_all c.calm) 3 rfl T.z_all (by decide +kernel) (da_cons (de_lc c (lc_ok c [(".0", 2), ("_law_one", 5), ("_law_after", 6)] [2, 5, 6, 1] [2, 5, 6] [] ["_law_ways"] (by decide +kernel) (di_zip2 c 4 rfl T.z_zip (da_cons (de_ix c.roomH (de_var c 0 rfl (by decide)) de_int (fun _ _ => rfl)) (da_cons (de_slice (de_ix c.roomH (de_var c 0 rfl (by decide)) de_int (fun _ _ => rfl)) (do_some de_int) do_no) da_nil))) (by decide) (fun _ c7 => (dg_tup c7 (dgs_cons (dg_name c7 [2, 5, 6] 5 rfl (by decide) (by decide)) (dgs_cons (dg_name c7 [2, 5, 6] 6 rfl (by decide) (by decide)) (dgs_nil [2, 5, 6]))) (asks_cons (asks_cons asks_nil)))) (fun _ c7 => dts_nil) (fun _ c7 => (de_cmp (o_eq c7.roomH) (de_bin o_mod (de_bin o_add (de_indexS (de_var c7 1 rfl (by decide)) (da_cons (de_ix c7.roomH (de_var c7 5 rfl (by decide)) de_int (fun _ _ => rfl)) da_nil)) (de_indexS (de_var c7 1 rfl (by decide)) (da_cons (de_ix c7.roomH (de_var c7 6 rfl (by decide)) de_int (fun _ _ => rfl)) da_nil))) de_int) de_int (nomark _))))) da_nil)))))))
theorem h__law_is_path {M : Md} (T : Hs M)  (F : TopFn M "_law_is_path" s__law_is_path ["_law_path_here"]) : Has M false 1 "_law_is_path" ["_law_path_here"] m__law_is_path := has_of F sc__law_is_path t__law_is_path rfl rfl (fun X c => b__law_is_path T  c)
abbrev s__law_due : Stmt := topS 64
def B__law_due : Tb := ⟨["_law_thing", "_law_words", "_law_found", "_law_at"], [0, 1, 2, 3], [0, 1, 2, 3], [0, 1, 2, 3], ["isinstance", "str", "_law_path_form", "len", "_law_is_path"], [], true, false, none⟩
theorem sc__law_due : FnScope B__law_due.N ["_law_thing"] (defScope s__law_due) := ⟨rfl, rfl, rfl, by decide +kernel, rfl, by decide +kernel, by decide +kernel⟩
theorem t__law_due : fnT B__law_due (defScope s__law_due) = true := by decide +kernel
noncomputable def d__law_due : En → Sto → SR :=
    (sSeq (sIf (tNot1 (tTru (eOp1 (isaD "str") (eVar 0)))) (sRet (eTup (aCons (eK (.str "text")) (aCons (eOp1 negD (eK (.int 1))) aNil)))) sNil)
    (sSeq (sSet 1 (eT1 splD (eVar 0) (eK (.str " "))))
    (sSeq (sAsg (gTp (gCn (gN 2) (gCn (gN 3) gNl))) (eCall m__law_path_form (aCons (eVar 1) aNil)))
    (sSeq (sIf (tOr2 (tBl (eOp2 eqD (eVar 2) (eK (.str "text")))) (tBl (eOp2 ltD (eVar 3) (eOpN lenF (aCons (eVar 1) aNil))))) (sRet (eTup (aCons (eK (.str "text")) (aCons (eVar 3) aNil)))) sNil)
    (sRet (eIf (tTru (eCall m__law_is_path (aCons (eVar 2) aNil))) (eVar 2) (eTup (aCons (eK (.str "text")) (aCons (eVar 3) aNil)))))))))
noncomputable def m__law_due : List Wv → Sto → Rs Wv := mkF 1 4 d__law_due
theorem b__law_due {M : Md} {X : Cx} (T : Hs M) (h__law_is_path : Has M false 1 "_law_is_path" ["_law_path_here"] m__law_is_path) (h__law_path_form : Has M false 2 "_law_path_form" ["_law_words"] m__law_path_form) (c : Cxt M X B__law_due 2) : DB X (defBody s__law_due) d__law_due :=
    (db_cons (ds_if (dt_not (dt_val (de_isa c 0 1 rfl T.z_isinstance rfl T.z_str (by decide +kernel) (de_var c 0 rfl (by decide))))) (db_one (ds_ret (de_tup (da_cons de_str (da_cons (de_un o_neg de_int) da_nil))))) db_nil)
    (db_cons (ds_set c 1 rfl (by decide) (de_split (de_var c 0 rfl (by decide)) de_str))
    (db_cons (ds_asg (de_fn c (h__law_path_form.up (by decide)) 2 rfl (da_cons (de_var c 1 rfl (by decide)) da_nil)) (dg_tup c (dgs_cons (dg_name c [2, 3] 2 rfl (by decide) (by decide)) (dgs_cons (dg_name c [2, 3] 3 rfl (by decide) (by decide)) (dgs_nil [2, 3]))) (asks_cons (asks_cons asks_nil))))
    (db_cons (ds_if (DW.dt (dw_or (dt_cmp (o_eq c.roomH) (de_var c 2 rfl (by decide)) de_str (nomark _)) (dw_or1 (dt_cmp (o_lt c.roomH) (de_var c 3 rfl (by decide)) (de_callB (id := "len") c c_len 3 rfl T.z_len (by decide +kernel) (da_cons (de_var c 1 rfl (by decide)) da_nil)) (nomark _))))) (db_one (ds_ret (de_tup (da_cons de_str (da_cons (de_var c 3 rfl (by decide)) da_nil))))) db_nil)
    (db_one (ds_ret (de_if (dt_val (de_fn c (h__law_is_path.up (by decide)) 4 rfl (da_cons (de_var c 2 rfl (by decide)) da_nil))) (de_var c 2 rfl (by decide)) (de_tup (da_cons de_str (da_cons (de_var c 3 rfl (by decide)) da_nil))))))))))
theorem h__law_due {M : Md} (T : Hs M) (h__law_is_path : Has M false 1 "_law_is_path" ["_law_path_here"] m__law_is_path) (h__law_path_form : Has M false 2 "_law_path_form" ["_law_words"] m__law_path_form) (F : TopFn M "_law_due" s__law_due ["_law_thing"]) : Has M false 3 "_law_due" ["_law_thing"] m__law_due := has_of F sc__law_due t__law_due rfl rfl (fun X c => b__law_due T h__law_is_path h__law_path_form c)
abbrev s_law : Stmt := topS 65
def B_law : Tb := ⟨["_law_script", "_law_cell", "_law_pen", "_law_path_here", "_law_text", "_law_turn", "_law_things", "_law_bad", "_law_thing", ".0"], [0, 1, 2, 3, 4, 5, 6, 7, 8], [0, 1, 2, 3, 4, 5, 6, 7, 8], [0, 1, 3, 5, 6], ["_law_cell_at", "_law_pen_of", "_law_path", "_law_path_text", "repr", "path_shown", "path_read", "range", "_law_odd", "_law_said", "_law_due", "list"], ["_law_pen", "_law_text", "_law_bad", "_law_thing"], true, true, (some "law.<locals>.<lambda>")⟩
theorem sc_law : FnScope B_law.N ["_law_script"] (defScope s_law) := ⟨rfl, rfl, rfl, by decide +kernel, rfl, by decide +kernel, by decide +kernel⟩
theorem t_law : fnT B_law (defScope s_law) = true := by decide +kernel
noncomputable def d_law_l1 : En → Sto → SR :=
    (sWp [5] (sIf (tBl (eOp2 neD (eOpN reprF (aCons (eSaid told__law_said fl__law_said (eCall m_path_read (aCons (eVar 8) aNil))) aNil)) (eOpN reprF (aCons (eCall m__law_due (aCons (eVar 8) aNil)) aNil)))) (sRet (eK (.bool false))) sNil))
noncomputable def d_law_l2 : En → Sto → SR :=
    (sWp [5, 8] (sFor (cRg1 (aCons (eK (.int 2)) aNil)) (gN 5) d_law_l1))
noncomputable def d_law_l3 : En → Sto → SR :=
    (sWp [7] (sIf (tBl (eOp2 neD (eSaid told__law_said fl__law_said (eCall m_path_shown (aCons (eVar 7) aNil))) (eTup (aCons (eK (.str "path")) aNil)))) (sRet (eK (.bool false))) sNil))
noncomputable def d_law_l4 : En → Sto → SR :=
    (sWp [1, 2, 3, 4, 5, 6, 7, 8] (sSeq (sSet 2 (eCall m__law_pen_of (aCons (eVar 1) aNil)))
    (sSeq (sSet 3 (eCall m__law_path (aCons (eVar 2) (aCons (eK (.int 1)) aNil))))
    (sSeq (sSet 4 (eCall m__law_path_text (aCons (eVar 3) aNil)))
    (sSeq (sIf (tOr2 (tBl (eOp2 neD (eOpN reprF (aCons (eCall m_path_shown (aCons (eVar 3) aNil)) aNil)) (eOpN reprF (aCons (eVar 4) aNil)))) (tBl (eOp2 neD (eOpN reprF (aCons (eCall m_path_read (aCons (eVar 4) aNil)) aNil)) (eOpN reprF (aCons (eVar 3) aNil))))) (sRet (eK (.bool false))) sNil)
    (sSeq (sSet 6 (eOp2 addD (eOp2 addD (eLst (aCons (eVar 4) aNil)) (eLc (cRg1 (aCons (eK (.int 20)) aNil)) (gN 5) tYs (eCall m__law_bent (aCons (eVar 2) (aCons (eVar 4) aNil))) [9, 5])) (eLst (aCons (eCall m__law_odd (aCons (eVar 2) aNil)) (aCons (eVar 3) (aCons (eK (.str "")) (aCons (eK (.str "0 0")) aNil)))))))
    (sSeq (sSet 6 (eOp2 addD (eVar 6) (eLst (aCons (eK (.str "0 0 east")) (aCons (eK (.str "0 0 east 0")) (aCons (eOp2 addD (eOp2 addD (eK (.str "0 0")) (eOp2 mulT (eK (.str " east 9 north 9")) (eK (.int 3)))) (eK (.str " east 9"))) aNil))))))
    (sSeq (sSet 6 (eOp2 addD (eVar 6) (eLst (aCons (eOp2 addD (eOp2 addD (eK (.str "-")) (eOp2 mulT (eK (.str "9")) (eK (.int 30)))) (eK (.str " 0 east 9"))) (aCons (eOp2 addD (eOp2 addD (eK (.str "-")) (eOp2 mulT (eK (.str "9")) (eK (.int 31)))) (eK (.str " 0 east 9"))) aNil)))))
    (sSeq (sFor (cSeq (eOp2 addD (eVar 6) (eLst (aCons (eK (.str "0 0 east 9 west 9")) (aCons (eK (.str "0 0 east 9 east 9")) (aCons (eK (.str "0 0 east 9 /")) (aCons (eK (.str "-1001 0 south 1")) (aCons (eVar 4) aNil)))))))) (gN 8) d_law_l2)
    (sFor (cSeq (eLst (aCons (eK .none) (aCons (eVar 4) (aCons (eSlice (eVar 3) pNo (pSome (eK (.int 2)))) (aCons (eOpN lstF (aCons (eVar 3) aNil)) (aCons (eTup (aCons (eK (.int 0)) (aCons (eK (.int 0)) (aCons (eTup aNil) aNil)))) (aCons (eTup (aCons (eK (.int 0)) (aCons (eK (.int 0)) (aCons (eTup (aCons (eTup (aCons (eK (.str "east")) (aCons (eK (.int 0)) aNil))) aNil)) aNil)))) (aCons (eTup (aCons (eK (.int 0)) (aCons (eK (.bool true)) (aCons (eOp2 ixD (eVar 3) (eK (.int 2))) aNil)))) aNil))))))))) (gN 7) d_law_l3))))))))))
noncomputable def d_law : En → Sto → SR :=
    (sSeq (sFor (cSeq (eOp2 addD (eLst (aCons (eCall m__law_cell_at (aCons (eVar 0) (aCons (eK (.int 0)) aNil))) aNil)) (eSlice (eVar 0) (pSome (eK (.int 1))) (pSome (eK (.int 3)))))) (gN 1) d_law_l4)
    (sRet (eK (.bool true))))
noncomputable def m_law : List Wv → Sto → Rs Wv := mkF 1 10 d_law
theorem b_law {M : Md} {X : Cx} (T : Hs M) (h__law_bent : Has M false 4 "_law_bent" ["_law_pen", "_law_text"] m__law_bent) (h__law_cell_at : Has M false 1 "_law_cell_at" ["_law_script", "_law_k"] m__law_cell_at) (h__law_due : Has M false 3 "_law_due" ["_law_thing"] m__law_due) (h__law_odd : Has M false 3 "_law_odd" ["_law_pen"] m__law_odd) (h__law_path : Has M false 3 "_law_path" ["_law_pen", "_law_least"] m__law_path) (h__law_path_text : Has M false 1 "_law_path_text" ["_law_path_here"] m__law_path_text) (h__law_pen_of : Has M false 1 "_law_pen_of" ["_law_cell"] m__law_pen_of) (h_path_read : Has M false 6 "path_read" ["text"] m_path_read) (h_path_shown : Has M false 6 "path_shown" ["path"] m_path_shown) (S__law_said : Sd__law_said M) (c : Cxt M X B_law 8) : DB X (defBody s_law) d_law :=
    (db_cons (ds_for c [1] (di_seq (de_bin o_add (de_lst (da_cons (de_fn c (h__law_cell_at.up (by decide)) 0 rfl (da_cons (de_var c 0 rfl (by decide)) (da_cons de_int da_nil))) da_nil)) (de_slice (de_var c 0 rfl (by decide)) (do_some de_int) (do_some de_int)))) (dg_name c [1] 1 rfl (by decide) (by decide))
    (db_wp [1, 2, 3, 4, 5, 6, 7, 8] (db_cons (ds_set c 2 rfl (by decide) (de_fn c (h__law_pen_of.up (by decide)) 1 rfl (da_cons (de_var c 1 rfl (by decide)) da_nil)))
    (db_cons (ds_set c 3 rfl (by decide) (de_fn c (h__law_path.up (by decide)) 2 rfl (da_cons (de_var c 2 rfl (by decide)) (da_cons de_int da_nil))))
    (db_cons (ds_set c 4 rfl (by decide) (de_fn c (h__law_path_text.up (by decide)) 3 rfl (da_cons (de_var c 3 rfl (by decide)) da_nil)))
    (db_cons (ds_if (DW.dt (dw_or (dt_cmp (o_ne c.roomH) (de_callB (id := "repr") c (c_repr c.roomH (c.gu rfl) (c.sm T.sm)) 4 rfl T.z_repr (by decide +kernel) (da_cons (de_fn c (h_path_shown.up (by decide)) 5 rfl (da_cons (de_var c 3 rfl (by decide)) da_nil)) da_nil)) (de_callB (id := "repr") c (c_repr c.roomH (c.gu rfl) (c.sm T.sm)) 4 rfl T.z_repr (by decide +kernel) (da_cons (de_var c 4 rfl (by decide)) da_nil)) (nomark _)) (dw_or1 (dt_cmp (o_ne c.roomH) (de_callB (id := "repr") c (c_repr c.roomH (c.gu rfl) (c.sm T.sm)) 4 rfl T.z_repr (by decide +kernel) (da_cons (de_fn c (h_path_read.up (by decide)) 6 rfl (da_cons (de_var c 4 rfl (by decide)) da_nil)) da_nil)) (de_callB (id := "repr") c (c_repr c.roomH (c.gu rfl) (c.sm T.sm)) 4 rfl T.z_repr (by decide +kernel) (da_cons (de_var c 3 rfl (by decide)) da_nil)) (nomark _))))) (db_one (ds_ret de_bl)) db_nil)
    (db_cons (ds_set c 6 rfl (by decide) (de_bin o_add (de_bin o_add (de_lst (da_cons (de_var c 4 rfl (by decide)) da_nil)) (de_lc c (lc_ok c [(".0", 9), ("_law_turn", 5)] [9, 5, 2, 4] [9, 5] ["_law_bent"] ["_law_pen", "_law_text"] (by decide +kernel) (di_range1 c 7 rfl T.z_range (da_cons de_int da_nil)) (by decide) (fun _ c8 => (dg_name c8 [9, 5] 5 rfl (by decide) (by decide))) (fun _ c8 => dts_nil) (fun _ c8 => (de_fn c8 (h__law_bent.up (by decide)) 0 rfl (da_cons (de_var c8 2 rfl (by decide)) (da_cons (de_var c8 4 rfl (by decide)) da_nil))))))) (de_lst (da_cons (de_fn c (h__law_odd.up (by decide)) 8 rfl (da_cons (de_var c 2 rfl (by decide)) da_nil)) (da_cons (de_var c 3 rfl (by decide)) (da_cons de_str (da_cons de_str da_nil)))))))
    (db_cons (ds_set c 6 rfl (by decide) (de_bin o_add (de_var c 6 rfl (by decide)) (de_lst (da_cons de_str (da_cons de_str (da_cons (de_bin o_add (de_bin o_add de_str (de_bin o_mulT de_str de_int)) de_str) da_nil))))))
    (db_cons (ds_set c 6 rfl (by decide) (de_bin o_add (de_var c 6 rfl (by decide)) (de_lst (da_cons (de_bin o_add (de_bin o_add de_str (de_bin o_mulT de_str de_int)) de_str) (da_cons (de_bin o_add (de_bin o_add de_str (de_bin o_mulT de_str de_int)) de_str) da_nil)))))
    (db_cons (ds_for c [8] (di_seq (de_bin o_add (de_var c 6 rfl (by decide)) (de_lst (da_cons de_str (da_cons de_str (da_cons de_str (da_cons de_str (da_cons (de_var c 4 rfl (by decide)) da_nil)))))))) (dg_name c [8] 8 rfl (by decide) (by decide))
    (db_wp [5, 8] (db_one (ds_for c [5] (di_range1 c 7 rfl T.z_range (da_cons de_int da_nil)) (dg_name c [5] 5 rfl (by decide) (by decide))
    (db_wp [5] (db_one (ds_if (dt_cmp (o_ne c.roomH) (de_callB (id := "repr") c (c_repr c.roomH (c.gu rfl) (c.sm T.sm)) 4 rfl T.z_repr (by decide +kernel) (da_cons (de_said (kb := 6) c S__law_said 9 rfl rfl [8] ["path_read"] (by decide +kernel) (by decide) (by decide) (fun _ c9 => (de_fn c9 (h_path_read.up (by decide)) 0 rfl (da_cons (de_var c9 8 rfl (by decide)) da_nil)))) da_nil)) (de_callB (id := "repr") c (c_repr c.roomH (c.gu rfl) (c.sm T.sm)) 4 rfl T.z_repr (by decide +kernel) (da_cons (de_fn c (h__law_due.up (by decide)) 10 rfl (da_cons (de_var c 8 rfl (by decide)) da_nil)) da_nil)) (nomark _)) (db_one (ds_ret de_bl)) db_nil)))))))
    (db_one (ds_for c [7] (di_seq (de_lst (da_cons de_non (da_cons (de_var c 4 rfl (by decide)) (da_cons (de_slice (de_var c 3 rfl (by decide)) do_no (do_some de_int)) (da_cons (de_callT (T := "list") c c_lst 11 rfl T.z_list (by decide +kernel) (da_cons (de_var c 3 rfl (by decide)) da_nil)) (da_cons (de_tup (da_cons de_int (da_cons de_int (da_cons (de_tup da_nil) da_nil)))) (da_cons (de_tup (da_cons de_int (da_cons de_int (da_cons (de_tup (da_cons (de_tup (da_cons de_str (da_cons de_int da_nil))) da_nil)) da_nil)))) (da_cons (de_tup (da_cons de_int (da_cons de_bl (da_cons (de_ix c.roomH (de_var c 3 rfl (by decide)) de_int (fun _ _ => rfl)) da_nil)))) da_nil))))))))) (dg_name c [7] 7 rfl (by decide) (by decide))
    (db_wp [7] (db_one (ds_if (dt_cmp (o_ne c.roomH) (de_said (kb := 6) c S__law_said 9 rfl rfl [7] ["path_shown"] (by decide +kernel) (by decide) (by decide) (fun _ c10 => (de_fn c10 (h_path_shown.up (by decide)) 0 rfl (da_cons (de_var c10 7 rfl (by decide)) da_nil)))) (de_tup (da_cons de_str da_nil)) (nomark _)) (db_one (ds_ret de_bl)) db_nil)))))))))))))))
    (db_one (ds_ret de_bl)))
theorem isc_NoText : FnScope ["self", "word"] ["self", "word"] (defScope (clsM (topS 28))) := ⟨rfl, rfl, rfl, by decide +kernel, rfl, by decide +kernel, by decide +kernel⟩
theorem nf_NoText : (fldX.lookup ("NoText" : Str)).getD [] = (["word"] : List Str) := by decide +kernel
theorem it_NoText : initT "StoneError" ["word"] (defScope (clsM (topS 28))) = true := by decide +kernel
end
section
variable [Tbl] [FnA]
theorem r_cell_at (ns : List Int) (k : Nat) (st : Sto) : m__law_cell_at [.d (.list (ns.map .int)), .d (.int (k : Nat))] st = .ok (.d (.int (ns.getD k 0))) st := by
  unfold m__law_cell_at d__law_cell_at
  by_cases h : k < ns.length
  · have h2 : (k : Int) < ns.length := by omega
    simp [h2, atD_nat, h]
  · have h2 : ¬ (k : Int) < ns.length := by omega
    simp [h2, h]
theorem big_l {i j : Int} (h : 0 ≤ i) (h2 : i < 2147483648) : bigOk i j = true := by
  unfold bigOk
  rw [decide_eq_true (show i.natAbs < 18446744073709551616 by omega)]
  rfl
def nxI (s : Int) : Int := (((s + 7919) % 2147483647) * ((s + 7919) % 2147483647) + 48271 * ((s + 7919) % 2147483647) + 12345) % 2147483629
theorem r_next (s : Int) (st : Sto) : m__law_next [.d (.int s)] st = .ok (.d (.int (nxI s))) st := by
  unfold m__law_next d__law_next
  have h1 : 0 ≤ (s + 7919) % 2147483647 := by omega
  have h2 : (s + 7919) % 2147483647 < 2147483648 := by omega
  simp [big_l h1 h2, big_l (i := 48271) (by decide) (by decide), nxI]
theorem r_pen_of (c : Int) (st : Sto) : ∃ a b d : Int, m__law_pen_of [.d (.int c)] st = .ok (.r st.length) (st ++ [.lst [.int a, .int b, .int d]]) := by
  unfold m__law_pen_of d__law_pen_of
  simp [newW]
theorem r_draw {p : Nat} {st : Sto} (n : Int) (h : Pen p st) (h0 : 0 < n) (h1 : n < 1606938044258990275541962092341162602522202993782792835301376) : ∃ (v : Int) (st' : Sto), m__law_draw [.r p, .d (.int n)] st = .ok (.d (.int v)) st' ∧ 0 ≤ v ∧ v < n ∧ Pn p st st' := by
  obtain ⟨a, b, c, e⟩ := id h
  have hp : p < st.length := (List.getElem?_eq_some_iff.mp e).1
  have dv : ∀ i, divD (.int i) (.int n) = some (.int (i / n)) := fun i => divD_ok h0 h1
  have d64 : ∀ i, divD (.int i) (.int 64) = some (.int (i / 64)) := fun i => rfl
  unfold m__law_draw d__law_draw
  have ix0 : ixN 3 0 = some 0 := rfl
  have ix2 : ixN 3 2 = some 2 := rfl
  by_cases q : b = 1 ∧ 0 < a
  · obtain ⟨rfl, q2⟩ := q
    refine ⟨a % n, st.set p (.lst [.int (a / n), .int 1, .int c]), ?_, Int.emod_nonneg _ (by omega), Int.emod_lt_of_pos a h0, .set h _ _ _⟩
    have hl : (st.set p (.lst [.int (a / n), .int 1, .int c])).length = st.length := by simp
    simp [-o_div_i, look1_l e, q2, h0, dv, sixW, setW_l e (t := 0) (q := 0) rfl]
  · have hs : ∀ x, (st.set p (.lst [.int a, .int b, .int x]))[p]? = some (.lst [.int a, .int b, .int x]) := fun x => List.getElem?_set_self hp
    refine ⟨nxI (nxI c + 7) / 64 % n, st.set p (.lst [.int a, .int b, .int (nxI (nxI c + 7))]), ?_, Int.emod_nonneg _ (by omega), Int.emod_lt_of_pos _ h0, .set h _ _ _⟩
    simp [-o_div_i, look1_l e, q, h0, d64, sixW, setW_l e (t := 2) (q := 2) rfl, r_next, look1_l (hs _)]
/-- the law's own loop over the cells, all other slots given up behind each -/
theorem outer_w {body : En → Sto → SR} {n : Nat} {K : Int} (turn : ∀ (sc : Wv) (c : Int) (st : Sto), ∃ st', body (some sc :: some (.d (.int c)) :: List.replicate n none) st = .nx (some sc :: List.replicate (n + 1) none) st') (ns : List Int) (h : ns.length ≤ 63) :
    ∃ st, mkF 1 (n + 2) (sSeq (sFor (cSeq (eOp2 addD (eLst (aCons (eCall m__law_cell_at (aCons (eVar 0) (aCons (eK (.int 0)) aNil))) aNil)) (eSlice (eVar 0) (pSome (eK (.int 1))) (pSome (eK (.int K)))))) (gN 1) body) (sRet (eK (.bool true)))) [.d (.list (ns.map .int))] [] = .ok (.d (.bool true)) st := by
  have e0 := r_cell_at ns 0 []
  have ec : cutD (ns.map PyData.int) (some 1) (some K) = (cutD ns (some 1) (some K)).map .int := by unfold cutD; simp
  obtain ⟨env, st, e1, rfl⟩ := forL_go (g := gN 1) (b := body) (fun env _ => env = some (.d (.list (ns.map .int))) :: List.replicate (n + 1) none) (.int (ns.getD 0 0) :: (cutD ns (some 1) (some K)).map .int) (fun x hx env st hI => by
    subst hI
    obtain ⟨i, rfl⟩ : ∃ i, x = .int i := by
      rcases List.mem_cons.mp hx with rfl | q
      · exact ⟨_, rfl⟩
      · obtain ⟨i, _, rfl⟩ := List.mem_map.mp q
        exact ⟨i, rfl⟩
    obtain ⟨st', e⟩ := turn (.d (.list (ns.map .int))) i st
    exact ⟨_, _, _, rfl, e, rfl⟩) (some (.d (.list (ns.map .int))) :: List.replicate (n + 1) none) [] rfl
  have hl : (cutD ns (some 1) (some K)).length ≤ 63 := Nat.le_trans cutD_len h
  have e0' : m__law_cell_at [.d (.list (ns.map .int)), .d (.int 0)] [] = .ok (.d (.int (ns.getD 0 0))) [] := e0
  refine ⟨[], ?_⟩
  generalize ns.getD 0 0 = c0 at *
  have hl2 : (cutD ns (some 1) (some K)).length + 1 ≤ 1000000 := by omega
  have e2 : List.replicate (n + 2 - 1) (none : Option Wv) = List.replicate (n + 1) none := rfl
  simp [e0', lstW, ec, Nat.add_comm 1, hl2, srcW, e2]
  simp at e1
  simp [e1]
end
section
variable [Tbl] [FnA]
/-! ## Words -/
@[simp] theorem x_end_ex (n : Nat) (e : Xc) (st : Sto) : endS n (.ex e st) = .ex e (st.take n) := rfl
section
def wdO (ws : List Str) (h : Nat) : Ob := .ins (FnA.a "Words") [("words", .list (ws.map .str)), ("here", .int (h : Int))]
section
variable {i : Nat} {st : Sto} {ws : List Str} {h : Nat}
theorem w_words (g : st[i]? = some (wdO ws h)) : fldW (FnA.a "Words") "words" (.r i) st = .ok (.d (.list (ws.map .str))) st := fldW_ok g rfl
theorem w_here (g : st[i]? = some (wdO ws h)) : fldW (FnA.a "Words") "here" (.r i) st = .ok (.d (.int ((h : Int)))) st := fldW_ok g rfl
theorem w_meth (g : st[i]? = some (wdO ws h)) {mn : Str} (h1 : mn ≠ "words") (h2 : mn ≠ "here") : isIn (FnA.a "Words") mn (.r i) st = true := isIn_ok g (by
  unfold List.lookup
  rw [show (mn == ("words" : Str)) = false from by simpa using h1]
  dsimp only
  unfold List.lookup
  rw [show (mn == ("here" : Str)) = false from by simpa using h2]
  rfl)
theorem w_set (g : st[i]? = some (wdO ws h)) (n : Nat) : attW (FnA.a "Words") "here" (.d (.int ((n : Int)))) (.r i) st = some (st.set i (wdO ws n)) := by
  have e := attW_ok (f := "here") g (by show 2 < 1000; decide) (.int (n : Int))
  have p : putP "here" (.int (n : Int)) [(("words" : Str), PyData.list (ws.map .str)), ("here", .int (h : Int))] = ([("words", .list (ws.map .str)), ("here", .int (n : Int))] : List (Str × PyData)) := by
    unfold putP
    rw [if_neg (by decide)]
    unfold putP
    rw [if_pos rfl]
  rw [p] at e
  exact e
theorem w_len (ws : List Str) : lenF [.list (ws.map PyData.str)] = some (.int (ws.length : Int)) := by simp
theorem r_is_over (g : st[i]? = some (wdO ws h)) : m_Words_is_over [.r i] st = .ok (.d (.bool (decide (h = ws.length)))) st := by
  have e1 := w_words g
  have e2 := w_here g
  have l := w_len ws
  have eq : eqD (.int (h : Int)) (.int (ws.length : Int)) = some (.bool (decide (h = ws.length))) := by
    rw [o_eq_i]
    congr 2
    rw [Bool.eq_iff_iff, beq_iff_eq, decide_eq_true_iff]
    omega
  generalize ws.map PyData.str = WS at *
  generalize decide (h = ws.length) = b at *
  generalize (ws.length : Int) = N at *
  generalize (h : Int) = HH at *
  unfold m_Words_is_over d_Words_is_over
  simp -implicitDefEqProofs [e1, e2, l, eq, -o_eq_i]
theorem r_take (g : st[i]? = some (wdO ws h)) (hl : h < ws.length) : m_Words_take [.r i] st = .ok (.d (.str (ws.getD h Str.empty))) (st.set i (wdO ws (h + 1))) := by
  have hi : i < st.length := (List.getElem?_eq_some_iff.mp g).1
  have e1 := r_is_over g
  rw [decide_eq_false (show ¬ h = ws.length by omega)] at e1
  have e2 := w_here g
  have im := w_meth g (mn := "is_over") (by decide) (by decide)
  have sa := w_set g (h + 1)
  have g2 : (st.set i (wdO ws (h + 1)))[i]? = some (wdO ws (h + 1)) := List.getElem?_set_self hi
  have e3 := w_words g2
  have e4 := w_here g2
  have ad : addD (.int (h : Int)) (.int 1) = some (.int ((h + 1 : Nat) : Int)) := rfl
  have sb : subD (.int ((h + 1 : Nat) : Int)) (.int 1) = some (.int (h : Int)) := by
    show some (PyData.int (((h + 1 : Nat) : Int) - 1)) = _
    congr 2; omega
  have ix : ixD (.list (ws.map .str)) (.int (h : Int)) = some (.str (ws.getD h Str.empty)) := by
    show atD (ws.map PyData.str) (h : Int) = _
    rw [atD_nat, List.getElem?_map, List.getElem?_eq_getElem hl, List.getD_eq_getElem?_getD, List.getElem?_eq_getElem hl]; rfl
  have tk : (st.set i (wdO ws (h + 1))).take st.length = st.set i (wdO ws (h + 1)) := take_set st i _
  generalize ws.map PyData.str = WS at *
  generalize hS : st.set i (wdO ws (h + 1)) = S1 at *
  generalize ((h + 1 : Nat) : Int) = H1 at *
  generalize (h : Int) = HH at *
  unfold m_Words_take d_Words_take
  simp -implicitDefEqProofs [im, e1, e2, ad, sa, e3, e4, sb, ix, tk, -o_add_i]
theorem r_takeX (g : st[i]? = some (wdO ws h)) (hl : h = ws.length) : m_Words_take [.r i] st = .ex ⟨"NoText", [("word", .int (h : Int))]⟩ st := by
  have e1 := r_is_over g
  rw [decide_eq_true hl] at e1
  have e2 := w_here g
  have im := w_meth g (mn := "is_over") (by decide) (by decide)
  generalize (h : Int) = HH at *
  unfold m_Words_take d_Words_take
  simp -implicitDefEqProofs [im, e1, e2, raiseW]
theorem r_must (g : st[i]? = some (wdO ws h)) (d : PyData) : m_Words_must [.r i, .d d] st = if isNone d = true then .ex ⟨"NoText", [("word", .int ((h : Int) - 1))]⟩ st else .ok (.d d) st := by
  have e2 := w_here g
  generalize (h : Int) = HH at *
  unfold m_Words_must d_Words_must
  cases q : isNone d with
  | true => simp -implicitDefEqProofs [e2, raiseW, q]
  | false => simp -implicitDefEqProofs [e2, raiseW, q]
theorem r_is_next (g : st[i]? = some (wdO ws h)) {some' : PyData} {b : Bool} (hb : h < ws.length → inD (.str (ws.getD h Str.empty)) some' = some (.bool b)) : h ≤ ws.length → m_Words_is_next [.r i, .d some'] st = .ok (.d (.bool (decide (h < ws.length) && b))) st := fun hle => by
  have e1 := r_is_over g
  have e2 := w_here g
  have e3 := w_words g
  have im := w_meth g (mn := "is_over") (by decide) (by decide)
  by_cases q : h = ws.length
  · rw [decide_eq_true q] at e1
    rw [decide_eq_false (show ¬ h < ws.length by omega), Bool.false_and]
    generalize ws.map PyData.str = WS at *
    generalize (h : Int) = HH at *
    unfold m_Words_is_next d_Words_is_next
    simp -implicitDefEqProofs [im, e1]
  · rw [decide_eq_false q] at e1
    have hl : h < ws.length := by omega
    have hb := hb hl
    rw [decide_eq_true hl, Bool.true_and]
    have ix : ixD (.list (ws.map .str)) (.int (h : Int)) = some (.str (ws.getD h Str.empty)) := by
      show atD (ws.map PyData.str) (h : Int) = _
      rw [atD_nat, List.getElem?_map, List.getElem?_eq_getElem hl, List.getD_eq_getElem?_getD, List.getElem?_eq_getElem hl]; rfl
    generalize ws.map PyData.str = WS at *
    generalize ws.getD h Str.empty = W at *
    generalize (h : Int) = HH at *
    unfold m_Words_is_next d_Words_is_next
    simp -implicitDefEqProofs [im, e1, e2, e3, ix, hb]
theorem r_end (g : st[i]? = some (wdO ws h)) (d : PyData) (b : Bool) : m_Words_end [.r i, .d d, .d (.bool b)] st = if h = ws.length ∧ b = true then .ok (.d d) st else .ex ⟨"NoText", [("word", .int (h : Int))]⟩ st := by
  have e1 := r_is_over g
  have e2 := w_here g
  have im := w_meth g (mn := "is_over") (by decide) (by decide)
  by_cases q : h = ws.length
  · rw [decide_eq_true q] at e1
    generalize (h : Int) = HH at *
    unfold m_Words_end d_Words_end
    cases b with
    | true =>
      rw [if_pos ⟨q, rfl⟩]
      simp -implicitDefEqProofs [im, e1, e2, raiseW]
    | false =>
      rw [if_neg fun z => Bool.false_ne_true z.2]
      simp -implicitDefEqProofs [im, e1, e2, raiseW]
  · rw [decide_eq_false q] at e1
    rw [if_neg fun z => q z.1]
    generalize (h : Int) = HH at *
    unfold m_Words_end d_Words_end
    simp -implicitDefEqProofs [im, e1, e2, raiseW]
end
end
end
section
variable [Tbl] [FnA]
open PySem.W (Datum DatumOrd)
/-! ## numbers in words -/
def digB (z : Str) : Bool := z.cps.toList.all fun c => decide (48 ≤ c ∧ c ≤ 57)
def bareS (w : Str) : Str := if cutS w none (some 1) = "-" then cutS w (some 1) none else w
theorem fig_in (c : Nat) : niD (.str ⟨#[c]⟩) (.str "0123456789") = some (.bool (!decide (48 ≤ c ∧ c ≤ 57))) := by
  have e : inB (.str ⟨#[c]⟩) (.str "0123456789") = some (decide (48 ≤ c ∧ c ≤ 57)) := by
    show some (!(Builtin.Str.occurrences ("0123456789" : Str) ⟨#[c]⟩ 0 ("0123456789" : Str).length 1).isEmpty) = _
    rw [PySem.StrLaws.found_one]
    congr 1
    rw [decide_eq_decide, show ("0123456789" : Str).cps.toList = [48, 49, 50, 51, 52, 53, 54, 55, 56, 57] from by decide +kernel]
    simp only [List.mem_cons, List.not_mem_nil, or_false]
    omega
  unfold niD
  rw [e]; rfl
theorem no_fig {j : Nat} {env : En} {st : Sto} (z : Str) (h : ∀ x, ∃ env1, gN j (.d x) env = some env1 ∧ eVar j env1 st = .ok (.d x) st) : lcL (gN j) (tBl (eOp2 niD (eVar j) (eK w_FIGURES))) (eVar j) [] env (z.cps.toList.map sgnD) [] st = .ok ((z.cps.toList.filter fun c => !decide (48 ≤ c ∧ c ≤ 57)).map sgnD) st := by
  have e := lcL_filterE (g := gN j) (t := tBl (eOp2 niD (eVar j) (eK w_FIGURES))) (c := eVar j) (env := env) (st := st) sgnD sgnD (fun c => !decide (48 ≤ c ∧ c ≤ 57)) z.cps.toList [] fun c _ => by
    obtain ⟨env1, a, b⟩ := h (sgnD c)
    have f := fig_in c
    refine ⟨env1, a, ?_, fun _ => b⟩
    have f : niD (sgnD c) w_FIGURES = some (.bool (!decide (48 ≤ c ∧ c ≤ 57))) := f
    rw [x_bl, x_op2, b]
    generalize sgnD c = SG at *
    generalize (!decide (48 ≤ c ∧ c ≤ 57)) = bb at *
    simp -implicitDefEqProofs [f]
  rw [List.nil_append] at e
  exact e
theorem ne_sgn (cs : List Nat) : neD (.list (cs.map sgnD)) (.list []) = some (.bool (!decide (cs = []))) := by
  have := q_ne (cs.map fun c : Nat => (⟨#[c]⟩ : Str)) []
  rw [show (decide (cs.map (fun c : Nat => (⟨#[c]⟩ : Str)) = [])) = decide (cs = []) by rw [decide_eq_decide, List.map_eq_nil_iff]] at this
  rw [show (Datum.toD (cs.map fun c : Nat => (⟨#[c]⟩ : Str)) : PyData) = .list (cs.map sgnD) by
    show PyData.list _ = PyData.list _
    congr 1
    rw [List.map_map]; rfl] at this
  exact this
theorem fil_dig (z : Str) : decide ((z.cps.toList.filter fun c => !decide (48 ≤ c ∧ c ≤ 57)) = []) = digB z := by
  unfold digB
  rw [Bool.eq_iff_iff, decide_eq_true_iff, List.filter_eq_nil_iff, List.all_eq_true]
  exact ⟨fun h c hc => by have := h c hc; simpa using this, fun h c hc => by have := h c hc; simpa using this⟩
/-- a nought ahead -/
def nauB (w : Str) : Bool := decide ((bareS w).cps.toList.head? = some 48) && (!decide (bareS w = "0") || !decide (bareS w = w))
def numI (w : Str) : Option Int := if 1 ≤ (bareS w).length ∧ (bareS w).length ≤ 30 ∧ digB (bareS w) = true ∧ nauB w = false then PySem.intText? w else none
def encI : Option Int → PyData
  | none => .none
  | some n => .int n
theorem cutS_list (z : Str) (lo hi : Option Int) : (cutS z lo hi).cps.toList = cutD z.cps.toList lo hi := rfl
/-- a text of signs 0..9, a minus ahead or not, is a number -/
theorem num_is {w : Str} (h1 : 1 ≤ (bareS w).length) (h2 : (bareS w).length ≤ 30) (hd : digB (bareS w) = true) : ∃ n, PySem.intText? w = some n ∧ w.length ≤ 31 := by
  have ad : ∀ c ∈ (bareS w).cps.toList, 48 ≤ c ∧ c ≤ 57 := fun c hc => of_decide_eq_true (List.all_eq_true.mp hd c hc)
  have hl : ∀ z : Str, z.cps.toList.length = z.length := fun z => Array.length_toList
  have ne : (bareS w).cps.toList ≠ [] := fun z => by
    have := hl (bareS w)
    rw [z, List.length_nil] at this
    omega
  by_cases hm : cutS w none (some 1) = "-"
  · have hb : bareS w = cutS w (some 1) none := if_pos hm
    rw [hb] at ad ne h2
    have e1 : w.cps.toList.take 1 = [45] := by
      have := cutS_list w none (some ((1 : Nat) : Int))
      rw [cutD_take] at this
      rw [← this, show (some ((1 : Nat) : Int)) = some 1 from rfl, hm]
      decide +kernel
    have e2 : (cutS w (some 1) none).cps.toList = w.cps.toList.drop 1 := by
      have := cutS_list w (some ((1 : Nat) : Int)) none
      rw [cutD_drop] at this
      exact this
    have ew : w.cps.toList = 45 :: w.cps.toList.drop 1 := by
      have := List.take_append_drop 1 w.cps.toList
      rw [e1] at this
      exact this.symm
    have l2 := hl (cutS w (some 1) none)
    rw [e2] at ad ne l2
    have lw := hl w
    rw [ew, List.length_cons] at lw
    exact ⟨_, PySem.intText_neg ew ad ne (by omega), by omega⟩
  · have hb : bareS w = w := if_neg hm
    rw [hb] at ad ne h2
    exact ⟨_, PySem.intText_digits ad ne (by omega), by omega⟩
theorem numI_no {w : Str} (h : ¬ (1 ≤ (bareS w).length ∧ (bareS w).length ≤ 30 ∧ digB (bareS w) = true ∧ nauB w = false)) : numI w = none := if_neg h
theorem ix_bare {z : Str} (h1 : 1 ≤ z.length) (h2 : z.length ≤ 1000000) : ∃ c, z.cps.toList.head? = some c ∧ ixD (.str z) (.int 0) = some (sgnD c) := by
  have hl : z.cps.toList.length = z.length := Array.length_toList
  rcases e : z.cps.toList with _ | ⟨c, r⟩
  · rw [e, List.length_nil] at hl; omega
  · refine ⟨c, rfl, ?_⟩
    show (if z.length ≤ 1000000 then (atD z.cps.toList 0).map fun c => PyData.str ⟨#[c]⟩ else none) = _
    rw [if_pos h2, show (0 : Int) = ((0 : Nat) : Int) from rfl, atD_nat, e]; rfl
theorem sgn_zero (c : Nat) : eqD (sgnD c) (.str "0") = some (.bool (decide (c = 48))) := by
  show eqD (.str ⟨#[c]⟩) (.str "0") = _
  rw [o_eq_s]
  congr 2
  rw [Bool.eq_iff_iff, beq_iff_eq, decide_eq_true_iff]
  constructor
  · intro h
    have := congrArg (fun z : Str => z.cps.toList) h
    have this : (⟨#[c]⟩ : Str).cps.toList = ("0" : Str).cps.toList := this
    rw [show ("0" : Str).cps.toList = [48] from by decide +kernel] at this
    simpa using this
  · rintro rfl
    decide +kernel
theorem r_number_in {w : Str} (hw : w.length ≤ 1000000) (st : Sto) : m_number_in [.d (.str w)] st = .ok (.d (encI (numI w))) st := by
  have s1 : slD none (some 1) (.str w) = some (.str (cutS w none (some 1))) := if_pos hw
  have hbl : (bareS w).length ≤ w.length := by
    unfold bareS
    split
    · exact cutS_length _ _ _
    · exact Nat.le_refl _
  have ln : lenF [.str (bareS w)] = some (.int ((bareS w).length : Int)) := if_pos (by omega)
  have hl : (bareS w).cps.toList.length = (bareS w).length := Array.length_toList
  have sl : ((bareS w).cps.toList.map sgnD).length ≤ 1000000 := by rw [List.length_map]; omega
  have nf := no_fig (j := 3) (env := [some (.d (.str w)), some (.d (.str (bareS w))), none, none]) (st := st) (bareS w) fun x => ⟨_, rfl, rfl⟩
  have nz := ne_sgn ((bareS w).cps.toList.filter fun c => !decide (48 ≤ c ∧ c ≤ 57))
  rw [fil_dig] at nz
  have src : ∀ st, srcW (.d (.str (bareS w))) st = .ok ⟨(bareS w).cps.toList.map sgnD, []⟩ st := fun st => rfl
  have tail : ∀ (B2 : Str), B2 = bareS w → (sSeq (sIf (tOr2 (tNot1 (tBl (eChain leD leD (eK (.int 1)) (eOpN lenF (aCons (eVar 1) aNil)) (eK w_MOST_FIGURES)))) (tBl (eOp2 neD (eLc (cSeq (eVar 1)) (gN 3) (tBl (eOp2 niD (eVar 3) (eK w_FIGURES))) (eVar 3) [2, 3]) (eLst aNil)))) (sRet (eK .none)) sNil)
    (sSeq (sIf (tAnd2 (tBl (eOp2 eqD (eOp2 ixD (eVar 1) (eK (.int 0))) (eK (.str "0")))) (tOr2 (tBl (eOp2 neD (eVar 1) (eK (.str "0")))) (tBl (eOp2 neD (eVar 1) (eVar 0))))) (sRet (eK .none)) sNil)
    (sRet (eOpN intT (aCons (eVar 0) aNil))))) [some (.d (.str w)), some (.d (.str B2)), none, none] st = .rt (.w (.d (encI (numI w)))) st := fun B2 hB => by
    subst hB
    have lw0 : ∀ st, lstW [] st = .ok (.d (.list [])) st := fun st => rfl
    by_cases c1 : 1 ≤ (bareS w).length ∧ (bareS w).length ≤ 30
    · have d1 : (1 : Int) ≤ ((bareS w).length : Int) := by omega
      have d2 : ((bareS w).length : Int) ≤ 30 := by omega
      cases hd : digB (bareS w) with
      | false =>
        rw [numI_no fun z => by rw [hd] at z; exact Bool.false_ne_true z.2.2.1]
        rw [hd] at nz
        generalize ((bareS w).cps.toList.filter fun c => !decide (48 ≤ c ∧ c ≤ 57)).map sgnD = FL at *
        generalize (bareS w).cps.toList.map sgnD = SL at *
        generalize ((bareS w).length : Int) = N at *
        simp -implicitDefEqProofs [ln, w_MOST_FIGURES, d1, d2, src, sl, wipeE, nf, lw0, nz, encI]
      | true =>
        rw [hd] at nz
        obtain ⟨n, en, nl⟩ := num_is c1.1 c1.2 hd
        obtain ⟨c, hc, ix⟩ := ix_bare (z := bareS w) c1.1 (by omega)
        have z0 := sgn_zero c
        have n1 := o_ne_s (bareS w) "0"
        have n2 := o_ne_s (bareS w) w
        have it : intT [.str w] = some (.int n) := by
          show (match PySem.intText? w with
            | some n => if w.length ≤ 640 then some (PyData.int n) else none
            | none => none) = _
          rw [en]
          exact if_pos (by omega)
        have hn : nauB w = (decide (c = 48) && (!(bareS w == ("0" : Str)) || !(bareS w == w))) := by
          unfold nauB
          rw [hc, show decide (some c = some 48) = decide (c = 48) by rw [decide_eq_decide, Option.some.injEq]]
          have q1 : decide (bareS w = "0") = (bareS w == ("0" : Str)) := by rw [Bool.eq_iff_iff, decide_eq_true_iff, beq_iff_eq]
          have q2 : decide (bareS w = w) = (bareS w == w) := by rw [Bool.eq_iff_iff, decide_eq_true_iff, beq_iff_eq]
          rw [q1, q2]
        cases hb : nauB w with
        | true =>
          rw [numI_no fun z => by rw [hb] at z; exact Bool.false_ne_true z.2.2.2.symm]
          rw [hb] at hn
          generalize ((bareS w).cps.toList.filter fun c => !decide (48 ≤ c ∧ c ≤ 57)).map sgnD = FL at *
          generalize (bareS w).cps.toList.map sgnD = SL at *
          generalize ((bareS w).length : Int) = N at *
          generalize (bareS w == ("0" : Str)) = b1 at *
          generalize (bareS w == w) = b2 at *
          generalize decide (c = 48) = b0 at *
          generalize sgnD c = SG at *
          cases b0 <;> cases b1 <;> cases b2 <;> first | (exact absurd hn (by decide)) | simp -implicitDefEqProofs [ln, w_MOST_FIGURES, d1, d2, src, sl, wipeE, nf, lw0, nz, encI, ix, z0, n1, n2, it, -o_ne_s]
        | false =>
          rw [show numI w = some n from (if_pos ⟨c1.1, c1.2, hd, hb⟩).trans en]
          rw [hb] at hn
          generalize ((bareS w).cps.toList.filter fun c => !decide (48 ≤ c ∧ c ≤ 57)).map sgnD = FL at *
          generalize (bareS w).cps.toList.map sgnD = SL at *
          generalize ((bareS w).length : Int) = N at *
          generalize (bareS w == ("0" : Str)) = b1 at *
          generalize (bareS w == w) = b2 at *
          generalize decide (c = 48) = b0 at *
          generalize sgnD c = SG at *
          cases b0 <;> cases b1 <;> cases b2 <;> first | (exact absurd hn (by decide)) | simp -implicitDefEqProofs [ln, w_MOST_FIGURES, d1, d2, src, sl, wipeE, nf, lw0, nz, encI, ix, z0, n1, n2, it, -o_ne_s]
    · rw [numI_no fun z => c1 ⟨z.1, z.2.1⟩]
      by_cases c2 : (1 : Int) ≤ ((bareS w).length : Int)
      · have d2 : ¬ ((bareS w).length : Int) ≤ 30 := by omega
        generalize ((bareS w).length : Int) = N at *
        simp -implicitDefEqProofs [ln, w_MOST_FIGURES, c2, d2, encI]
      · generalize ((bareS w).length : Int) = N at *
        simp -implicitDefEqProofs [ln, w_MOST_FIGURES, c2, encI]
  obtain ⟨T, hT⟩ : ∃ T, T = (sSeq (sIf (tOr2 (tNot1 (tBl (eChain leD leD (eK (.int 1)) (eOpN lenF (aCons (eVar 1) aNil)) (eK w_MOST_FIGURES)))) (tBl (eOp2 neD (eLc (cSeq (eVar 1)) (gN 3) (tBl (eOp2 niD (eVar 3) (eK w_FIGURES))) (eVar 3) [2, 3]) (eLst aNil)))) (sRet (eK .none)) sNil)
    (sSeq (sIf (tAnd2 (tBl (eOp2 eqD (eOp2 ixD (eVar 1) (eK (.int 0))) (eK (.str "0")))) (tOr2 (tBl (eOp2 neD (eVar 1) (eK (.str "0")))) (tBl (eOp2 neD (eVar 1) (eVar 0))))) (sRet (eK .none)) sNil)
    (sRet (eOpN intT (aCons (eVar 0) aNil))))) := ⟨_, rfl⟩
  rw [← hT] at tail
  have hd : d_number_in = sSeq (sSet 1 (eIf (tBl (eOp2 eqD (eSlice (eVar 0) pNo (pSome (eK (.int 1)))) (eK (.str "-")))) (eSlice (eVar 0) (pSome (eK (.int 1))) pNo) (eVar 0))) T := by rw [hT]; rfl
  unfold m_number_in
  rw [hd]
  clear hT hd
  have s2 : slD (some 1) none (.str w) = some (.str (cutS w (some 1) none)) := if_pos hw
  by_cases q : cutS w none (some 1) = "-"
  · have hB : bareS w = cutS w (some 1) none := if_pos q
    have tl := tail _ hB.symm
    have e0 : eqD (.str (cutS w none (some 1))) (.str "-") = some (.bool true) := by rw [o_eq_s, q]; rfl
    clear tail nf nz src sl ln hl hbl hB q
    generalize cutS w none (some 1) = P1 at *
    generalize cutS w (some 1) none = P2 at *
    generalize numI w = R at *
    simp -implicitDefEqProofs [s1, e0, s2, tl, -o_eq_s]
  · have hB : bareS w = w := if_neg q
    have tl := tail _ hB.symm
    have e0 : eqD (.str (cutS w none (some 1))) (.str "-") = some (.bool false) := by
      rw [o_eq_s]
      congr 2
      simpa using q
    clear tail nf nz src sl ln hl hbl hB q
    generalize cutS w none (some 1) = P1 at *
    generalize numI w = R at *
    simp -implicitDefEqProofs [s1, e0, tl, -o_eq_s]
end
section
variable [Tbl] [FnA]
/-! ## a number, a way read -/
section
variable {i : Nat} {st : Sto} {ws : List Str} {h : Nat}
def numAt (ws : List Str) (h : Nat) : Option Int := if h < ws.length then numI (ws.getD h Str.empty) else none
def noT (h : Nat) : Xc := ⟨"NoText", [("word", .int (h : Int))]⟩
theorem w_same (g : st[i]? = some (wdO ws h)) (hl : h = ws.length) : st.set i (wdO ws (min (h + 1) ws.length)) = st := by
  rw [show min (h + 1) ws.length = h by omega]
  apply List.ext_getElem?
  intro j
  by_cases q : i = j
  · subst q
    rw [List.getElem?_set_self (List.getElem?_eq_some_iff.mp g).1, g]
  · rw [List.getElem?_set_ne q]
theorem r_read_number (hw : ∀ w ∈ ws, w.length ≤ 1000000) (g : st[i]? = some (wdO ws h)) (hle : h ≤ ws.length) : m_Words_read_number [.r i] st = match numAt ws h with
    | some n => .ok (.d (.int (n))) (st.set i (wdO ws (h + 1)))
    | none => .ex (noT h) (st.set i (wdO ws (min (h + 1) ws.length))) := by
  have hi : i < st.length := (List.getElem?_eq_some_iff.mp g).1
  have i1 := w_meth g (mn := "must") (by decide) (by decide)
  have i2 := w_meth g (mn := "take") (by decide) (by decide)
  by_cases q : h < ws.length
  · have e1 := r_take g q
    have g2 : (st.set i (wdO ws (h + 1)))[i]? = some (wdO ws (h + 1)) := List.getElem?_set_self hi
    have hm : ws.getD h Str.empty ∈ ws := by
      rw [List.getD_eq_getElem?_getD, List.getElem?_eq_getElem q]
      exact List.getElem_mem q
    have e2 := fun st => r_number_in (hw _ hm) st
    have e3 := r_must g2 (encI (numI (ws.getD h Str.empty)))
    have tk : (st.set i (wdO ws (h + 1))).take st.length = st.set i (wdO ws (h + 1)) := take_set st i _
    have na : numAt ws h = numI (ws.getD h Str.empty) := if_pos q
    rw [na, show min (h + 1) ws.length = h + 1 by omega]
    rw [show (((h + 1 : Nat) : Int) - 1) = (h : Int) by omega] at e3
    unfold noT
    generalize ws.getD h Str.empty = W at *
    generalize hS : st.set i (wdO ws (h + 1)) = S1 at *
    generalize (h : Int) = HH at *
    cases r : numI W with
    | none =>
      rw [r] at e2 e3
      have e3 : m_Words_must [.r i, .d (encI none)] S1 = .ex ⟨"NoText", [("word", .int HH)]⟩ S1 := e3
      generalize encI none = EN at *
      unfold m_Words_read_number d_Words_read_number
      simp -implicitDefEqProofs [i1, i2, e1, e2, e3, tk]
    | some n =>
      rw [r] at e2 e3
      have e3 : m_Words_must [.r i, .d (.int n)] S1 = .ok (.d (.int (n))) S1 := e3
      have e2 : ∀ st, m_number_in [.d (.str W)] st = .ok (.d (.int (n))) st := e2
      unfold m_Words_read_number d_Words_read_number
      simp -implicitDefEqProofs [i1, i2, e1, e2, e3, tk]
  · have hq : h = ws.length := by omega
    have e1 := r_takeX g hq
    rw [show numAt ws h = none from if_neg q]
    dsimp only
    rw [w_same g hq]
    unfold noT
    generalize (h : Int) = HH at *
    unfold m_Words_read_number d_Words_read_number
    simp -implicitDefEqProofs [i1, i2, e1]
/-- a word out of some -/
def wayAt (ys ws : List Str) (h : Nat) : Option Str := if h < ws.length ∧ ws.getD h Str.empty ∈ ys then some (ws.getD h Str.empty) else none
theorem r_read_sign {ys : List Str} {sm : PyData} (hsm : ∀ w, inD (.str w) sm = some (.bool (decide (w ∈ ys)))) (g : st[i]? = some (wdO ws h)) (hle : h ≤ ws.length) : m_Words_read_sign [.r i, .d sm] st = match wayAt ys ws h with
    | some w => .ok (.d (.str w)) (st.set i (wdO ws (h + 1)))
    | none => .ex (noT h) (st.set i (wdO ws (min (h + 1) ws.length))) := by
  have hi : i < st.length := (List.getElem?_eq_some_iff.mp g).1
  have i2 := w_meth g (mn := "take") (by decide) (by decide)
  by_cases q : h < ws.length
  · have e1 := r_take g q
    have g2 : (st.set i (wdO ws (h + 1)))[i]? = some (wdO ws (h + 1)) := List.getElem?_set_self hi
    have i1 := w_meth g2 (mn := "must") (by decide) (by decide)
    have e2 := hsm (ws.getD h Str.empty)
    have e3 := fun d => r_must g2 d
    have tk : (st.set i (wdO ws (h + 1))).take st.length = st.set i (wdO ws (h + 1)) := take_set st i _
    rw [show min (h + 1) ws.length = h + 1 by omega]
    rw [show (((h + 1 : Nat) : Int) - 1) = (h : Int) by omega] at e3
    have na : wayAt ys ws h = if ws.getD h Str.empty ∈ ys then some (ws.getD h Str.empty) else none := by
      unfold wayAt
      by_cases r : ws.getD h Str.empty ∈ ys
      · rw [if_pos ⟨q, r⟩, if_pos r]
      · rw [if_neg fun z => r z.2, if_neg r]
    rw [na]
    unfold noT
    by_cases r : ws.getD h Str.empty ∈ ys
    · rw [decide_eq_true r] at e2
      rw [if_pos r]
      have e3 : m_Words_must [.r i, .d (.str (ws.getD h Str.empty))] (st.set i (wdO ws (h + 1))) = .ok (.d (.str (ws.getD h Str.empty))) (st.set i (wdO ws (h + 1))) := e3 _
      generalize ws.getD h Str.empty = W at *
      generalize hS : st.set i (wdO ws (h + 1)) = S1 at *
      unfold m_Words_read_sign d_Words_read_sign
      simp -implicitDefEqProofs [i1, i2, e1, e2, e3, tk]
    · rw [decide_eq_false r] at e2
      rw [if_neg r]
      have e3 : m_Words_must [.r i, .d .none] (st.set i (wdO ws (h + 1))) = .ex ⟨"NoText", [("word", .int (h : Int))]⟩ (st.set i (wdO ws (h + 1))) := e3 _
      generalize ws.getD h Str.empty = W at *
      generalize hS : st.set i (wdO ws (h + 1)) = S1 at *
      generalize (h : Int) = HH at *
      unfold m_Words_read_sign d_Words_read_sign
      simp -implicitDefEqProofs [i1, i2, e1, e2, e3, tk]
  · have hq : h = ws.length := by omega
    have e1 := r_takeX g hq
    rw [show wayAt ys ws h = none from if_neg fun z => q z.1]
    dsimp only
    rw [w_same g hq]
    unfold noT
    generalize (h : Int) = HH at *
    unfold m_Words_read_sign d_Words_read_sign
    simp -implicitDefEqProofs [i2, e1]
end
end
section
variable [Tbl] [FnA]
/-! ## a path read -/
theorem get_mid (st rest : Sto) (o : Ob) : (st ++ o :: rest)[st.length]? = some o := by rw [List.getElem?_append_right (Nat.le_refl _)]; simp
theorem set_mid (st rest : Sto) (o o' : Ob) : (st ++ o :: rest).set st.length o' = st ++ o' :: rest := by rw [List.set_append_right _ _ (Nat.le_refl _)]; simp
theorem take_mid (st rest : Sto) : (st ++ rest).take st.length = st := by simp
def waysL : List Str := ["east", "north", "west", "south"]
theorem ways_in (w : Str) : inD (.str w) w_WAYS_texts = some (.bool (decide (w ∈ waysL))) := by
  have this : inOk (.str w) (waysL.map .str) = true := inOk_d w waysL (by decide)
  show (inB (.str w) (.tuple (waysL.map .str))).map PyData.bool = _
  have e : inB (.str w) (.tuple (waysL.map .str)) = some (decide (w ∈ waysL)) := by
    show (if inOk (.str w) (waysL.map .str) then some ((waysL.map PyData.str).any fun y => PyData.eqv y (.str w)) else none) = _
    rw [if_pos this]
    congr 1
    rw [List.any_map, Bool.eq_iff_iff, List.any_eq_true, decide_eq_true_iff]
    constructor
    · rintro ⟨x, hx, e⟩
      have e : (x == w) = true := e
      rw [beq_iff_eq] at e
      rw [← e]; exact hx
    · intro hx
      exact ⟨w, hx, (by show (w == w) = true; exact beq_self_eq_true w)⟩
  rw [e]; rfl
def legD (l : Str × Int) : PyData := .tuple [.str l.1, .int l.2]
/-- the legs behind the first one -/
def rdLegs (ws : List Str) : Nat → Nat → Except Nat (List (Str × Int) × Nat)
  | 0, h => .ok ([], h)
  | f + 1, h => match wayAt waysL ws h with
    | none => .ok ([], h)
    | some w => match numAt ws (h + 1) with
      | none => .error (h + 1)
      | some n => match rdLegs ws f (h + 2) with
        | .ok (l, k) => .ok ((w, n) :: l, k)
        | .error e => .error e
section
variable {i : Nat} {st : Sto} {ws : List Str}
def SL (st : Sto) (i : Nat) (ws : List Str) (h : Nat) (l : List (Str × Int)) : Sto := st.set i (wdO ws h) ++ [.lst (l.map legD)]
theorem sl_i {h : Nat} {l : List (Str × Int)} (hi : i < st.length) : (SL st i ws h l)[i]? = some (wdO ws h) := by
  unfold SL
  rw [List.getElem?_append_left (by rw [List.length_set]; exact hi), List.getElem?_set_self hi]
theorem sl_q {h : Nat} {l : List (Str × Int)} : (SL st i ws h l)[st.length]? = some (.lst (l.map legD)) := by
  unfold SL
  have := get_mid (st.set i (wdO ws h)) [] (Ob.lst (l.map legD))
  rwa [List.length_set] at this
theorem sl_set {h h' : Nat} {l : List (Str × Int)} (hi : i < st.length) : (SL st i ws h l).set i (wdO ws h') = SL st i ws h' l := by
  unfold SL
  rw [List.set_append_left _ _ (by rw [List.length_set]; exact hi), List.set_set]
theorem sl_app {h : Nat} {l l' : List (Str × Int)} : (SL st i ws h l).set st.length (.lst (l'.map legD)) = SL st i ws h l' := by
  unfold SL
  have := set_mid (st.set i (wdO ws h)) [] (Ob.lst (l.map legD)) (Ob.lst (l'.map legD))
  rwa [List.length_set] at this
theorem sl_take {h : Nat} {l : List (Str × Int)} (hi : i < st.length) : (SL st i ws h l).take i = st.take i := by
  unfold SL
  rw [List.take_append_of_le_length (by rw [List.length_set]; omega), List.take_set_of_le (Nat.le_refl _)]
noncomputable def tN : En → Sto → Rs Bool := tTru (eMth (FnA.a "Words") "is_next" m_Words_is_next (eVar 0) (aCons (eK w_WAYS_texts) aNil))
noncomputable def bN : En → Sto → SR := sExp (eM appW (eVar 3) (aCons (eTup (aCons (eMth (FnA.a "Words") "take" m_Words_take (eVar 0) aNil) (aCons (eMth (FnA.a "Words") "read_number" m_Words_read_number (eVar 0) aNil) aNil))) aNil))
theorem tN_is {h : Nat} {l : List (Str × Int)} (hi : i < st.length) (hle : h ≤ ws.length) (v1 v2 v3 : Option Wv) : tN [some (.r i), v1, v2, v3] (SL st i ws h l) = .ok ((wayAt waysL ws h).isSome) (SL st i ws h l) := by
  have g := sl_i (ws := ws) (h := h) (l := l) hi
  have nx := r_is_next g (some' := w_WAYS_texts) (fun _ => ways_in _) hle
  have im := w_meth g (mn := "is_next") (by decide) (by decide)
  have e : (wayAt waysL ws h).isSome = (decide (h < ws.length) && decide (ws.getD h Str.empty ∈ waysL)) := by
    unfold wayAt
    by_cases q : h < ws.length ∧ ws.getD h Str.empty ∈ waysL
    · rw [if_pos q, decide_eq_true q.1, decide_eq_true q.2]; rfl
    · rw [if_neg q]
      by_cases q1 : h < ws.length
      · rw [decide_eq_true q1, decide_eq_false fun z => q ⟨q1, z⟩]; rfl
      · rw [decide_eq_false q1]; rfl
  rw [e]
  unfold tN
  generalize (decide (h < ws.length) && decide (ws.getD h Str.empty ∈ waysL)) = b at *
  generalize SL st i ws h l = S at *
  generalize w_WAYS_texts = WT at *
  simp -implicitDefEqProofs [im, nx]
theorem bN_ok {h : Nat} {l : List (Str × Int)} {w : Str} {n : Int} (hw : ∀ w ∈ ws, w.length ≤ 1000000) (hi : i < st.length) (h1 : wayAt waysL ws h = some w) (h2 : numAt ws (h + 1) = some n) (hl : l.length < 1000000) (v1 v2 : Option Wv) :
    bN [some (.r i), v1, v2, some (.r st.length)] (SL st i ws h l) = .nx [some (.r i), v1, v2, some (.r st.length)] (SL st i ws (h + 2) (l ++ [(w, n)])) := by
  have g := sl_i (ws := ws) (h := h) (l := l) hi
  have q : h < ws.length ∧ ws.getD h Str.empty = w := by
    unfold wayAt at h1
    split at h1
    · rename_i z; exact ⟨z.1, Option.some.inj h1⟩
    · cases h1
  have t1 := r_take g q.1
  rw [q.2, sl_set hi] at t1
  have g2 := sl_i (ws := ws) (h := h + 1) (l := l) hi
  have rn := r_read_number hw g2 q.1
  rw [h2] at rn
  dsimp only at rn
  rw [sl_set hi] at rn
  have i2 := w_meth g (mn := "take") (by decide) (by decide)
  have i3 := w_meth g2 (mn := "read_number") (by decide) (by decide)
  have il := isLst_l (sl_q (st := st) (i := i) (ws := ws) (h := h) (l := l))
  have ap := appW_l (sl_q (st := st) (i := i) (ws := ws) (h := h + 2) (l := l)) (by rw [List.length_map]; exact hl) (legD (w, n))
  rw [show l.map legD ++ [legD (w, n)] = (l ++ [(w, n)]).map legD by rw [List.map_append]; rfl, sl_app] at ap
  have tw : ∀ st, tupW [.d (.str w), (.d (.int (n)))] st = .ok (.d (legD (w, n))) st := fun st => rfl
  generalize legD (w, n) = LD at *
  generalize SL st i ws h l = S0 at *
  generalize SL st i ws (h + 1) l = S1 at *
  generalize SL st i ws (h + 2) (l ++ [(w, n)]) = S3 at *
  have rn : m_Words_read_number [.r i] S1 = .ok (.d (.int (n))) (SL st i ws (h + 2) l) := rn
  generalize SL st i ws (h + 2) l = S2 at *
  unfold bN
  simp -implicitDefEqProofs [il, i2, t1, i3, rn, tw, ap]
theorem bN_ex {h : Nat} {l : List (Str × Int)} {w : Str} (hw : ∀ w ∈ ws, w.length ≤ 1000000) (hi : i < st.length) (h1 : wayAt waysL ws h = some w) (h2 : numAt ws (h + 1) = none) (v1 v2 : Option Wv) :
    bN [some (.r i), v1, v2, some (.r st.length)] (SL st i ws h l) = .ex (noT (h + 1)) (SL st i ws (min (h + 2) ws.length) l) := by
  have g := sl_i (ws := ws) (h := h) (l := l) hi
  have q : h < ws.length ∧ ws.getD h Str.empty = w := by
    unfold wayAt at h1
    split at h1
    · rename_i z; exact ⟨z.1, Option.some.inj h1⟩
    · cases h1
  have t1 := r_take g q.1
  rw [q.2, sl_set hi] at t1
  have g2 := sl_i (ws := ws) (h := h + 1) (l := l) hi
  have rn := r_read_number hw g2 q.1
  rw [h2] at rn
  dsimp only at rn
  rw [sl_set hi] at rn
  have i2 := w_meth g (mn := "take") (by decide) (by decide)
  have i3 := w_meth g2 (mn := "read_number") (by decide) (by decide)
  have il := isLst_l (sl_q (st := st) (i := i) (ws := ws) (h := h) (l := l))
  generalize SL st i ws h l = S0 at *
  generalize SL st i ws (h + 1) l = S1 at *
  have rn : m_Words_read_number [.r i] S1 = .ex (noT (h + 1)) (SL st i ws (min (h + 2) ws.length) l) := rn
  generalize SL st i ws (min (h + 2) ws.length) l = S2 at *
  unfold bN
  simp -implicitDefEqProofs [il, i2, t1, i3, rn]
theorem rd_go (hw : ∀ w ∈ ws, w.length ≤ 1000000) (hi : i < st.length) (v1 v2 : Option Wv) : ∀ (f h : Nat) (l : List (Str × Int)), h ≤ ws.length → ws.length < f + h → l.length + f < 1000000 →
    (∀ m k, rdLegs ws f h = .ok (m, k) → whL tN bN f [some (.r i), v1, v2, some (.r st.length)] (SL st i ws h l) = .nx [some (.r i), v1, v2, some (.r st.length)] (SL st i ws k (l ++ m))) ∧
    (∀ e, rdLegs ws f h = .error e → ∃ k l', whL tN bN f [some (.r i), v1, v2, some (.r st.length)] (SL st i ws h l) = .ex (noT e) (SL st i ws k l')) := fun f => by
  induction f with
  | zero => intro h l h1 h2; omega
  | succ f ih =>
    intro h l h1 h2 h3
    have t := tN_is (st := st) (l := l) hi h1 v1 v2 (some (.r st.length))
    unfold rdLegs
    cases hwy : wayAt waysL ws h with
    | none =>
      rw [hwy] at t
      have e : whL tN bN (f + 1) [some (.r i), v1, v2, some (.r st.length)] (SL st i ws h l) = .nx [some (.r i), v1, v2, some (.r st.length)] (SL st i ws h l) := by
        unfold whL
        rw [t]; rfl
      dsimp only
      refine ⟨fun m k hr => ?_, fun e hr => nomatch hr⟩
      cases hr
      rw [e, List.append_nil]
    | some w =>
      rw [hwy] at t
      have q : h < ws.length := by
        unfold wayAt at hwy
        split at hwy
        · rename_i z; exact z.1
        · cases hwy
      dsimp only
      cases hn : numAt ws (h + 1) with
      | none =>
        have b := bN_ex (st := st) (l := l) hw hi hwy hn v1 v2
        have e : whL tN bN (f + 1) [some (.r i), v1, v2, some (.r st.length)] (SL st i ws h l) = .ex (noT (h + 1)) (SL st i ws (min (h + 2) ws.length) l) := by
          unfold whL
          rw [t]
          show (bN _ _).seq _ = _
          rw [b]; rfl
        dsimp only
        refine ⟨fun m k hr => (nomatch hr), fun e' hr => ?_⟩
        cases hr
        exact ⟨_, _, e⟩
      | some n =>
        have b := bN_ok (st := st) (l := l) hw hi hwy hn (by omega) v1 v2
        have q2 : h + 1 < ws.length := by
          unfold numAt at hn
          split at hn
          · rename_i z; exact z
          · cases hn
        have e : whL tN bN (f + 1) [some (.r i), v1, v2, some (.r st.length)] (SL st i ws h l) = whL tN bN f [some (.r i), v1, v2, some (.r st.length)] (SL st i ws (h + 2) (l ++ [(w, n)])) := by
          conv => lhs; unfold whL
          rw [t]
          show (bN _ _).seq _ = _
          rw [b]; rfl
        obtain ⟨i1, i2⟩ := ih (h + 2) (l ++ [(w, n)]) (by omega) (by omega) (by rw [List.length_append, List.length_singleton]; omega)
        dsimp only
        rw [e]
        cases hr : rdLegs ws f (h + 2) with
        | ok p =>
          obtain ⟨m, k⟩ := p
          refine ⟨fun m' k' hr' => ?_, fun e' hr' => nomatch hr'⟩
          cases hr'
          rw [i1 m k hr, List.append_assoc]; rfl
        | error e' =>
          refine ⟨fun m' k' hr' => (nomatch hr'), fun e2 hr' => ?_⟩
          cases hr'
          exact i2 _ hr
end
end
section
variable [Tbl] [FnA]
/-! ## read_path -/
abbrev Pth := Int × Int × List (Str × Int)
def pthD (p : Pth) : PyData := .tuple [.int p.1, .int p.2.1, .tuple (p.2.2.map legD)]
/-- a path and where it ends, or the word that is none -/
def rdPath (ws : List Str) : Except Nat (Pth × Nat) := match numAt ws 0 with
  | none => .error 0
  | some x => match numAt ws 1 with
    | none => .error 1
    | some y => match wayAt waysL ws 2 with
      | none => .error 2
      | some w => match numAt ws 3 with
        | none => .error 3
        | some n => match rdLegs ws 100000 4 with
          | .ok (l, k) => .ok ((x, y, (w, n) :: l), k)
          | .error e => .error e
theorem num_lt {ws : List Str} {h : Nat} {n : Int} (e : numAt ws h = some n) : h < ws.length := by
  unfold numAt at e
  split at e
  · rename_i z; exact z
  · cases e
theorem way_lt {ws : List Str} {h : Nat} {w : Str} (e : wayAt waysL ws h = some w) : h < ws.length := by
  unfold wayAt at e
  split at e
  · rename_i z; exact z.1
  · cases e
section
variable {i : Nat} {st : Sto} {ws : List Str}
theorem r_read_path (hw : ∀ w ∈ ws, w.length ≤ 1000000) (hn : ws.length ≤ 100000) (g : st[i]? = some (wdO ws 0)) :
    (∀ p k, rdPath ws = .ok (p, k) → m_Words_read_path [.r i] st = .ok (.d (pthD p)) (st.set i (wdO ws k))) ∧
    (∀ e, rdPath ws = .error e → ∃ st', m_Words_read_path [.r i] st = .ex (noT e) st' ∧ st'.take i = st.take i) := by
  have hi : i < st.length := (List.getElem?_eq_some_iff.mp g).1
  have tki : ∀ h, (st.set i (wdO ws h)).take i = st.take i := fun h => List.take_set_of_le (Nat.le_refl _)
  have tks : ∀ h, (st.set i (wdO ws h)).take st.length = st.set i (wdO ws h) := fun h => take_set st i _
  have gs : ∀ h, (st.set i (wdO ws h))[i]? = some (wdO ws h) := fun h => List.getElem?_set_self hi
  have ss : ∀ h h', (st.set i (wdO ws h)).set i (wdO ws h') = st.set i (wdO ws h') := fun h h' => List.set_set ..
  have i0 := w_meth g (mn := "read_number") (by decide) (by decide)
  have n0 := r_read_number hw g (Nat.zero_le _)
  unfold rdPath
  cases e0 : numAt ws 0 with
  | none =>
    rw [e0] at n0
    dsimp only at n0
    refine ⟨fun p k h => (nomatch h), fun e h => ?_⟩
    cases h
    refine ⟨st.set i (wdO ws (min (0 + 1) ws.length)), ?_, tki _⟩
    have tk := tks (min (0 + 1) ws.length)
    generalize st.set i (wdO ws (min (0 + 1) ws.length)) = S1 at *
    unfold m_Words_read_path d_Words_read_path
    simp -implicitDefEqProofs [i0, n0, tk]
  | some x =>
    have l0 := num_lt e0
    rw [e0] at n0
    dsimp only at n0
    rw [show 0 + 1 = 1 from rfl] at n0
    have i1 := w_meth (gs 1) (mn := "read_number") (by decide) (by decide)
    have n1 := r_read_number hw (gs 1) l0
    rw [ss, ss] at n1
    dsimp only
    cases e1 : numAt ws 1 with
    | none =>
      rw [e1] at n1
      dsimp only at n1
      refine ⟨fun p k h => (nomatch h), fun e h => ?_⟩
      cases h
      refine ⟨st.set i (wdO ws (min (1 + 1) ws.length)), ?_, tki _⟩
      have tk := tks (min (1 + 1) ws.length)
      generalize st.set i (wdO ws (min (1 + 1) ws.length)) = S2 at *
      generalize st.set i (wdO ws 1) = S1 at *
      unfold m_Words_read_path d_Words_read_path
      simp -implicitDefEqProofs [i0, n0, i1, n1, tk]
    | some y =>
      have l1 := num_lt e1
      rw [e1] at n1
      dsimp only at n1
      rw [show 1 + 1 = 2 from rfl] at n1
      have i2 := w_meth (gs 2) (mn := "read_sign") (by decide) (by decide)
      have n2 := r_read_sign (ys := waysL) (sm := w_WAYS_texts) ways_in (gs 2) l1
      rw [ss, ss] at n2
      dsimp only
      cases e2 : wayAt waysL ws 2 with
      | none =>
        rw [e2] at n2
        dsimp only at n2
        refine ⟨fun p k h => (nomatch h), fun e h => ?_⟩
        cases h
        refine ⟨st.set i (wdO ws (min (2 + 1) ws.length)), ?_, tki _⟩
        have tk := tks (min (2 + 1) ws.length)
        generalize st.set i (wdO ws (min (2 + 1) ws.length)) = S3 at *
        generalize st.set i (wdO ws 2) = S2 at *
        generalize st.set i (wdO ws 1) = S1 at *
        unfold m_Words_read_path d_Words_read_path
        generalize w_WAYS_texts = WT at *
        simp -implicitDefEqProofs [i0, n0, i1, n1, i2, n2, tk]
      | some w =>
        have l2 := way_lt e2
        rw [e2] at n2
        dsimp only at n2
        rw [show 2 + 1 = 3 from rfl] at n2
        have i3 := w_meth (gs 3) (mn := "read_number") (by decide) (by decide)
        have n3 := r_read_number hw (gs 3) l2
        rw [ss, ss] at n3
        dsimp only
        cases e3 : numAt ws 3 with
        | none =>
          rw [e3] at n3
          dsimp only at n3
          refine ⟨fun p k h => (nomatch h), fun e h => ?_⟩
          cases h
          refine ⟨st.set i (wdO ws (min (3 + 1) ws.length)), ?_, tki _⟩
          have tk := tks (min (3 + 1) ws.length)
          generalize st.set i (wdO ws (min (3 + 1) ws.length)) = S4 at *
          generalize st.set i (wdO ws 3) = S3 at *
          generalize st.set i (wdO ws 2) = S2 at *
          generalize st.set i (wdO ws 1) = S1 at *
          unfold m_Words_read_path d_Words_read_path
          generalize w_WAYS_texts = WT at *
          simp -implicitDefEqProofs [i0, n0, i1, n1, i2, n2, i3, n3, tk]
        | some n =>
          have l3 := num_lt e3
          rw [e3] at n3
          dsimp only at n3
          rw [show 3 + 1 = 4 from rfl] at n3
          have hl : (st.set i (wdO ws 4)).length = st.length := List.length_set
          have nw : newW [.d (legD (w, n))] (st.set i (wdO ws 4)) = .ok (.r st.length) (SL st i ws 4 [(w, n)]) := by
            show Rs.ok (Wv.r (st.set i (wdO ws 4)).length) _ = _
            rw [hl]; rfl
          have tw : ∀ st, tupW [.d (.str w), (.d (.int (n)))] st = .ok (.d (legD (w, n))) st := fun st => rfl
          obtain ⟨go1, go2⟩ := rd_go (st := st) hw hi (some (.d (.int (x)))) (some (.d (.int (y)))) 100000 4 [(w, n)] (by omega) (by omega) (by simp)
          have hd : d_Words_read_path = sSeq (sPar2 1 2 (aCons (eMth (FnA.a "Words") "read_number" m_Words_read_number (eVar 0) aNil) (aCons (eMth (FnA.a "Words") "read_number" m_Words_read_number (eVar 0) aNil) aNil)))
            (sSeq (sSet 3 (eNewL (aCons (eTup (aCons (eMth (FnA.a "Words") "read_sign" m_Words_read_sign (eVar 0) (aCons (eK w_WAYS_texts) aNil)) (aCons (eMth (FnA.a "Words") "read_number" m_Words_read_number (eVar 0) aNil) aNil))) aNil)))
            (sSeq (fun env st => whL tN bN 100000 env st) (sRet (eTup (aCons (eVar 1) (aCons (eVar 2) (aCons (eOpN tupF (aCons (eVar 3) aNil)) aNil))))))) := rfl
          dsimp only
          cases hr : rdLegs ws 100000 4 with
          | ok p =>
            obtain ⟨l, k⟩ := p
            refine ⟨fun p' k' h => ?_, fun e h => (nomatch h)⟩
            cases h
            have go := go1 l k hr
            have lk := looks_l1 (sl_q (st := st) (i := i) (ws := ws) (h := k) (l := [(w, n)] ++ l))
            have tk : (SL st i ws k ([(w, n)] ++ l)).take st.length = st.set i (wdO ws k) := by
              unfold SL
              have := take_mid (st.set i (wdO ws k)) [Ob.lst (([(w, n)] ++ l).map legD)]
              rwa [List.length_set] at this
            have tp : tupF [.list (([(w, n)] ++ l).map legD)] = some (.tuple (((w, n) :: l).map legD)) := rfl
            have t3 : ∀ a b c st, tupW [.d a, .d b, .d c] st = .ok (.d (.tuple [a, b, c])) st := fun a b c st => rfl
            have pe : pthD (x, y, (w, n) :: l) = .tuple [.int x, .int y, .tuple (((w, n) :: l).map legD)] := rfl
            rw [pe]
            clear go1 go2
            generalize SL st i ws k ([(w, n)] ++ l) = SE at *
            generalize ([(w, n)] ++ l).map legD = LL at *
            generalize ((w, n) :: l).map legD = L2 at *
            generalize SL st i ws 4 [(w, n)] = S5 at *
            generalize legD (w, n) = LD at *
            generalize st.set i (wdO ws k) = SK at *
            generalize st.set i (wdO ws 4) = S4 at *
            generalize st.set i (wdO ws 3) = S3 at *
            generalize st.set i (wdO ws 2) = S2 at *
            generalize st.set i (wdO ws 1) = S1 at *
            unfold m_Words_read_path
            rw [hd]
            generalize w_WAYS_texts = WT at *
            generalize tN = TN at *
            generalize bN = BN at *
            simp -implicitDefEqProofs [i0, n0, i1, n1, i2, n2, i3, n3, tw, nw, go, lk, tp, t3, tk]
          | error e =>
            refine ⟨fun p' k' h => (nomatch h), fun e' h => ?_⟩
            cases h
            obtain ⟨k, l', go⟩ := go2 e hr
            have tk : ((SL st i ws k l').take st.length).take i = st.take i := by
              rw [List.take_take, Nat.min_eq_left (by omega)]
              exact sl_take hi
            refine ⟨(SL st i ws k l').take st.length, ?_, tk⟩
            clear go1 go2 tk
            generalize SL st i ws k l' = SE at *
            generalize SL st i ws 4 [(w, n)] = S5 at *
            generalize legD (w, n) = LD at *
            generalize st.set i (wdO ws 4) = S4 at *
            generalize st.set i (wdO ws 3) = S3 at *
            generalize st.set i (wdO ws 2) = S2 at *
            generalize st.set i (wdO ws 1) = S1 at *
            unfold m_Words_read_path
            rw [hd]
            generalize w_WAYS_texts = WT at *
            generalize tN = TN at *
            generalize bN = BN at *
            simp -implicitDefEqProofs [i0, n0, i1, n1, i2, n2, i3, n3, tw, nw, go]
end
end
section
variable [Tbl] [FnA]
/-! ## paths: the program's look at them -/
def isWhole : PyData → Bool
  | .int _ => true
  | _ => false
def isFT (d : PyData) (a b : Int) : Bool := match d with
  | .int i => decide (a ≤ i) && decide (i ≤ b)
  | _ => false
theorem r_is_whole (d : PyData) (st : Sto) : m_is_whole [.d d] st = .ok (.d (.bool (isWhole d))) st := by
  unfold m_is_whole d_is_whole
  cases d <;> simp [isWhole]
theorem r_is_from_to (d : PyData) (a b : Int) (st : Sto) : m_is_from_to [.d d, .d (.int a), .d (.int b)] st = .ok (.d (.bool (isFT d a b))) st := by
  unfold m_is_from_to d_is_from_to
  cases d <;> simp [isFT, isWhole, r_is_whole]
def wayB (w : Str) : Bool := ([.str "east", .str "north", .str "west", .str "south"] : List PyData).any fun y => PyData.eqv y (.str w)
theorem wayB_iff (w : Str) : wayB w = true ↔ w ∈ y_WAYS_paths := by
  simp only [wayB, y_WAYS_paths, List.any_cons, List.any_nil, PyData.eqv, Bool.or_false, Bool.or_eq_true, beq_iff_eq, List.mem_cons, List.not_mem_nil, or_false]
  constructor
  · rintro (h | h | h | h) <;> simp only [h, true_or, or_true]
  · rintro (h | h | h | h) <;> simp only [h, true_or, or_true]
theorem ni_ways (w : Str) : niD (.str w) w_WAYS_paths = some (.bool (!wayB w)) := rfl
def isLeg : PyData → Bool
  | .tuple [.str w, x] => wayB w && isFT x 1 60
  | _ => false
theorem r_is_leg (d : PyData) (st : Sto) : m_is_leg [.d d] st = .ok (.d (.bool (isLeg d))) st := by
  unfold m_is_leg d_is_leg
  cases d with
  | tuple xs =>
    match xs with
    | [] => simp [isLeg]
    | [a] => simp [isLeg]
    | [a, b] =>
      cases a with
      | str w => cases h : wayB w <;> simp [isLeg, ni_ways, r_is_from_to, w_MOST_LONG, h]
      | _ => simp [isLeg]
    | a :: b :: c :: r =>
      have h : ¬ ((r.length : Int) + 1 + 1 + 1 = 2) := by omega
      simp [isLeg, h]
  | _ => simp [isLeg]
theorem idx_ways {w : Str} (h : w ∈ y_WAYS_paths) : ∃ i : Nat, idxS y_WAYS_paths w = some i ∧ i < 4 ∧ (decide (w ∈ (["east", "west"] : List Str)) = decide (i % 2 = 0)) := by
  simp only [y_WAYS_paths, List.mem_cons, List.not_mem_nil, or_false] at h
  rcases h with rfl | rfl | rfl | rfl
  · exact ⟨0, by decide +kernel, by decide, by decide +kernel⟩
  · exact ⟨1, by decide +kernel, by decide, by decide +kernel⟩
  · exact ⟨2, by decide +kernel, by decide, by decide +kernel⟩
  · exact ⟨3, by decide +kernel, by decide, by decide +kernel⟩
theorem r_quarter {a b : Str} {i j : Nat} (ha : idxS y_WAYS_paths a = some i) (hb : idxS y_WAYS_paths b = some j) (st : Sto) : m_quarter [.d (.str a), .d (.str b)] st = .ok (.d (.int (((j : Int) - i) % 4))) st := by
  unfold m_quarter d_quarter
  simp [gixW, ha, hb]
def flatS (w : Str) : Bool := decide (w ∈ (["east", "west"] : List Str))
def turnB : PyData → Bool
  | .tuple [.tuple (.str a :: _), .tuple (.str b :: _)] => flatS a != flatS b
  | _ => false
def pairsOf (legs : List PyData) : List PyData := List.zipWith pairD legs (legs.drop 1)
def isPath : PyData → Bool
  | .tuple [x, y, .tuple legs] => isFT x (-1000) 1000 && (isFT y (-1000) 1000 && (decide (1 ≤ legs.length) && (decide (legs.length ≤ 6) && (legs.all isLeg && (pairsOf legs).all turnB))))
  | _ => false
theorem isLeg_is {d : PyData} (h : isLeg d = true) : ∃ (w : Str) (x : PyData), d = .tuple [.str w, x] ∧ w ∈ y_WAYS_paths ∧ isFT x 1 60 = true := by
  unfold isLeg at h
  split at h
  · rename_i w x
    rw [Bool.and_eq_true] at h
    exact ⟨w, x, rfl, (wayB_iff w).mp h.1, h.2⟩
  · cases h
theorem pairs_mem {legs : List PyData} {d : PyData} (h : d ∈ pairsOf legs) : ∃ a b, a ∈ legs ∧ b ∈ legs ∧ d = pairD a b := by
  unfold pairsOf at h
  obtain ⟨i, hi⟩ := List.getElem?_of_mem h
  rw [List.getElem?_zipWith] at hi
  cases ea : legs[i]? with
  | none => rw [ea] at hi; cases hi
  | some a =>
    cases eb : (legs.drop 1)[i]? with
    | none => rw [ea, eb] at hi; cases hi
    | some b =>
      rw [ea, eb] at hi
      exact ⟨a, b, List.mem_of_getElem? ea, List.mem_of_mem_drop (List.mem_of_getElem? eb), (Option.some.inj hi).symm⟩
theorem in_13 (q : Int) : inD (.int q) (.tuple [.int 1, .int 3]) = some (.bool ((1 == q) || ((3 == q) || false))) := rfl
theorem turn_ways {a b : Str} {i j : Nat} (hi : i < 4) (hj : j < 4) (ha : flatS a = decide (i % 2 = 0)) (hb : flatS b = decide (j % 2 = 0)) : (((1 : Int) == ((j : Int) - i) % 4) || (((3 : Int) == ((j : Int) - i) % 4) || false)) = (flatS a != flatS b) := by
  rw [ha, hb]
  have hi' : i = 0 ∨ i = 1 ∨ i = 2 ∨ i = 3 := by omega
  have hj' : j = 0 ∨ j = 1 ∨ j = 2 ∨ j = 3 := by omega
  rcases hi' with rfl | rfl | rfl | rfl <;> rcases hj' with rfl | rfl | rfl | rfl <;> decide
theorem r_is_path (d : PyData) (st : Sto) : m_is_path [.d d] st = .ok (.d (.bool (isPath d))) st := by
  unfold m_is_path d_is_path
  cases d with
  | tuple xs =>
    match xs with
    | [] => simp [isPath]
    | [a] => simp [isPath]
    | [a, b] => simp [isPath]
    | [a, b, c] =>
      cases c with
      | tuple legs =>
        have e1 := lcL_map (g := gN 4) (c := eCall m_is_leg (aCons (eVar 4) aNil)) (env := [some (.d (.tuple [a, b, .tuple legs])), none, none, none, none]) (st := st) (f := fun x => .bool (isLeg x)) legs [] fun x hx => ⟨_, rfl, by simp [r_is_leg]⟩
        cases ha : isFT a (-1000) 1000 with
        | false => simp [isPath, r_is_from_to, w_MOST_FAR, ha]
        | true =>
        cases hb : isFT b (-1000) 1000 with
        | false => simp [isPath, r_is_from_to, w_MOST_FAR, ha, hb]
        | true =>
        by_cases h1 : 1 ≤ legs.length ∧ legs.length ≤ 6
        · have h2 : (1 : Int) ≤ legs.length := by omega
          have h3 : (legs.length : Int) ≤ 6 := by omega
          have h5 : legs.length ≤ 1000000 := by omega
          have h6 : (pairsOf legs).length ≤ 1000000 := by unfold pairsOf; simp; omega
          cases hl : legs.all isLeg with
          | false => simp [isPath, r_is_from_to, w_MOST_FAR, w_MOST_LEGS, ha, hb, h1, h2, h3, h5, hl, srcW, wipeE, e1, o_all']
          | true =>
            have e2 := lcL_map (g := gTp (gCn (gN 2) (gCn (gN 3) gNl))) (c := eOp2 inD (eCall m_quarter (aCons (eOp2 ixD (eVar 2) (eK (.int 0))) (aCons (eOp2 ixD (eVar 3) (eK (.int 0))) aNil))) (eTup (aCons (eK (.int 1)) (aCons (eK (.int 3)) aNil)))) (env := [some (.d (.tuple [a, b, .tuple legs])), none, none, none, none]) (st := st) (f := fun x => .bool (turnB x)) (pairsOf legs) [] fun x hx => by
              obtain ⟨p, q, hp, hq, rfl⟩ := pairs_mem hx
              obtain ⟨u, x1, rfl, hu, _⟩ := isLeg_is ((List.all_eq_true.mp hl) p hp)
              obtain ⟨v, x2, rfl, hv, _⟩ := isLeg_is ((List.all_eq_true.mp hl) q hq)
              obtain ⟨i, ei, hi, fi⟩ := idx_ways hu
              obtain ⟨j, ej, hj, fj⟩ := idx_ways hv
              refine ⟨_, rfl, ?_⟩
              have tw := turn_ways hi hj fi fj
              simp [pairD, turnB, r_quarter ei ej, tupW, in_13]
              simpa using tw
            have e3 : cutD legs (some 1) none = legs.drop 1 := cutD_drop legs 1
            have e4 : List.zipWith pairD legs legs.tail = pairsOf legs := by unfold pairsOf; rw [List.drop_one]
            have h7 : legs.length ≤ 1000001 := by omega
            simp [isPath, r_is_from_to, w_MOST_FAR, w_MOST_LEGS, ha, hb, h1, h2, h3, h5, hl, srcW, wipeE, e1, o_all', zip2W, e3, e4, e2, h6, h7]
        · have h2 : ¬ ((1 : Int) ≤ legs.length ∧ (legs.length : Int) ≤ 6) := by omega
          have h3 : (legs.length : Int) < 1 ∨ 6 < (legs.length : Int) := by omega
          have h4 : ∀ z, (decide (1 ≤ legs.length) && (decide (legs.length ≤ 6) && z)) = false := fun z => by
            by_cases q : 1 ≤ legs.length
            · rw [decide_eq_false (show ¬ legs.length ≤ 6 by omega)]; simp
            · rw [decide_eq_false q]; rfl
          simp [isPath, r_is_from_to, w_MOST_FAR, w_MOST_LEGS, ha, hb, h3, h4]
      | _ => simp [isPath]
    | a :: b :: c :: d :: r =>
      have h : ¬ ((r.length : Int) + 1 + 1 + 1 + 1 = 3) := by omega
      simp [isPath, h]
  | _ => simp [isPath]
/-! ## paths by their legs -/
def wayS : Nat → Str
  | 0 => "east"
  | 1 => "north"
  | 2 => "west"
  | _ => "south"
def dx : Nat → Int
  | 0 => 1
  | 2 => -1
  | _ => 0
abbrev Lgs := List (Nat × Int)
def lgD (l : Nat × Int) : PyData := .tuple [.str (wayS l.1), .int l.2]
def ptD (x y : Int) (lg : Lgs) : PyData := .tuple [.int x, .int y, .tuple (lg.map lgD)]
def wy (lg : Lgs) (k : Nat) : Nat := ((lg[k]?).getD (0, 0)).1
def ln (lg : Lgs) (k : Nat) : Int := ((lg[k]?).getD (0, 0)).2
def tq (lg : Lgs) (k : Nat) : Nat := (wy lg (k + 1) + 4 - wy lg k) % 4
structure Pt (x y : Int) (lg : Lgs) : Prop where
  x : -1000 ≤ x ∧ x ≤ 1000
  y : -1000 ≤ y ∧ y ≤ 1000
  n : 1 ≤ lg.length ∧ lg.length ≤ 6
  ok : ∀ l ∈ lg, l.1 < 4 ∧ 1 ≤ l.2 ∧ l.2 ≤ 60
  t : ∀ k, k + 1 < lg.length → tq lg k = 1 ∨ tq lg k = 3
theorem lg_at {lg : Lgs} {k : Nat} (h : k < lg.length) : lg[k] = (wy lg k, ln lg k) := by
  unfold wy ln
  rw [List.getElem?_eq_getElem h]
  rfl
theorem Pt.k {x y : Int} {lg : Lgs} (P : Pt x y lg) {k : Nat} (h : k < lg.length) : wy lg k < 4 ∧ 1 ≤ ln lg k ∧ ln lg k ≤ 60 := by
  have := P.ok _ (List.getElem_mem h)
  rw [lg_at h] at this
  exact this
theorem w4 {w : Nat} (h : w < 4) : w = 0 ∨ w = 1 ∨ w = 2 ∨ w = 3 := by omega
theorem wayB_way (w : Nat) : wayB (wayS w) = true := by
  unfold wayS; split <;> rfl
theorem flat_way {w : Nat} (h : w < 4) : flatS (wayS w) = decide (w % 2 = 0) := by
  rcases w4 h with rfl | rfl | rfl | rfl <;> decide +kernel
theorem ways_at {w : Nat} (h : w < 4) : atD [PyData.str "east", .str "north", .str "west", .str "south"] (w : Int) = some (.str (wayS w)) := by
  rcases w4 h with rfl | rfl | rfl | rfl <;> rfl
theorem Pt.isPath {x y : Int} {lg : Lgs} (P : Pt x y lg) : isPath (ptD x y lg) = true := by
  have h1 := P.x
  have h2 := P.y
  have h3 := P.n
  unfold ptD PV.isPath
  simp only [isFT, Bool.and_eq_true, decide_eq_true_eq, List.length_map, List.all_eq_true]
  refine ⟨h1, h2, h3.1, h3.2, fun d hd => ?_, fun d hd => ?_⟩
  · obtain ⟨l, hl, rfl⟩ := List.mem_map.mp hd
    have := P.ok l hl
    simp only [lgD, isLeg, wayB_way, isFT, Bool.true_and, Bool.and_eq_true, decide_eq_true_eq]
    exact this.2
  · unfold pairsOf at hd
    obtain ⟨i, hi⟩ := List.getElem?_of_mem hd
    rw [List.getElem?_zipWith] at hi
    by_cases q : i + 1 < lg.length
    · have a1 : (lg.map lgD)[i]? = some (lgD (wy lg i, ln lg i)) := by rw [List.getElem?_map, List.getElem?_eq_getElem (by omega), lg_at]; rfl
      have a2 : ((lg.map lgD).drop 1)[i]? = some (lgD (wy lg (i + 1), ln lg (i + 1))) := by rw [List.getElem?_drop, Nat.add_comm 1 i, List.getElem?_map, List.getElem?_eq_getElem q, lg_at]; rfl
      rw [a1, a2] at hi
      cases hi
      have t := P.t i q
      have k1 := (P.k (show i < lg.length by omega)).1
      have k2 := (P.k q).1
      unfold tq at t
      show (flatS (wayS (wy lg i)) != flatS (wayS (wy lg (i + 1)))) = true
      rw [flat_way k1, flat_way k2]
      rw [bne_iff_ne, ne_eq, decide_eq_decide]
      omega
    · have a2 : ((lg.map lgD).drop 1)[i]? = none := by rw [List.getElem?_eq_none]; simp; omega
      rw [a2] at hi
      cases e : (lg.map lgD)[i]? <;> rw [e] at hi <;> cases hi
end
section
variable [Tbl] [FnA]
/-! ## path_read -/
theorem r_init {i : Nat} {st : Sto} {t : Str} (ht : t.length ≤ 1000000) (g : st[i]? = some (.ins (FnA.a "Words") [])) : m_Words___init__ [.r i, .d (.str t)] st = .ok (.d .none) (st.set i (wdO (Txt.split t " ") 0)) := by
  have hi : i < st.length := (List.getElem?_eq_some_iff.mp g).1
  have sp : splD (.str t) (.str " ") = some (.list ((Txt.split t " ").map .str)) := if_pos ⟨by decide +kernel, ht⟩
  have a1 := attW_ok (f := "words") g (by decide) (.list ((Txt.split t " ").map .str))
  have p1 : putP "words" (.list ((Txt.split t " ").map .str)) [] = [(("words" : Str), PyData.list ((Txt.split t " ").map .str))] := rfl
  rw [p1] at a1
  have g2 : (st.set i (.ins (FnA.a "Words") [(("words" : Str), PyData.list ((Txt.split t " ").map .str))]))[i]? = some (.ins (FnA.a "Words") [(("words" : Str), PyData.list ((Txt.split t " ").map .str))]) := List.getElem?_set_self hi
  have a2 := attW_ok (f := "here") g2 (by show 1 < 1000; decide) (.int 0)
  have p2 : putP "here" (.int 0) [(("words" : Str), PyData.list ((Txt.split t " ").map .str))] = [(("words" : Str), PyData.list ((Txt.split t " ").map .str)), ("here", .int 0)] := by
    unfold putP
    rw [if_neg (by decide)]
    rfl
  rw [p2, List.set_set] at a2
  have a3 : attW (FnA.a "Words") "here" (.d (.int (0))) (.r i) (st.set i (.ins (FnA.a "Words") [(("words" : Str), PyData.list ((Txt.split t " ").map .str))])) = some (st.set i (wdO (Txt.split t " ") 0)) := a2
  clear a2
  have tk : (st.set i (wdO (Txt.split t " ") 0)).take st.length = st.set i (wdO (Txt.split t " ") 0) := take_set st i _
  generalize st.set i (wdO (Txt.split t " ") 0) = S2 at *
  generalize hS1 : st.set i (.ins (FnA.a "Words") [(("words" : Str), PyData.list ((Txt.split t " ").map .str))]) = S1 at *
  generalize (Txt.split t " ").map PyData.str = WS at *
  unfold m_Words___init__ d_Words___init__
  simp -implicitDefEqProofs [sp, a1, a3, tk]
/-- what path_read makes of a text -/
def prT (t : Str) : Except Nat Pth := match rdPath (Txt.split t " ") with
  | .error e => .error e
  | .ok (p, k) => if k = (Txt.split t " ").length ∧ isPath (pthD p) = true then .ok p else .error k
theorem r_path_read {t : Str} (ht : t.length ≤ 1000000) (hw : ∀ w ∈ Txt.split t " ", w.length ≤ 1000000) (hn : (Txt.split t " ").length ≤ 100000) (st : Sto) : m_path_read [.d (.str t)] st = match prT t with
    | .ok p => .ok (.d (pthD p)) st
    | .error e => .ex (noT e) st := by
  have gi : (st ++ [Ob.ins (FnA.a "Words") []])[st.length]? = some (.ins (FnA.a "Words") []) := get_mid st [] _
  have e1 := r_init ht gi
  rw [set_mid] at e1
  have mk : makeW (FnA.a "Words") m_Words___init__ [.d (.str t)] st = .ok (.r st.length) (st ++ [wdO (Txt.split t " ") 0]) := by
    unfold makeW
    rw [e1]; rfl
  have g : (st ++ [wdO (Txt.split t " ") 0])[st.length]? = some (wdO (Txt.split t " ") 0) := get_mid st [] _
  obtain ⟨ok, er⟩ := r_read_path hw hn g
  have im := w_meth g (mn := "read_path") (by decide) (by decide)
  unfold prT
  cases hr : rdPath (Txt.split t " ") with
  | error e =>
    obtain ⟨st', e2, tk⟩ := er e hr
    rw [take_mid] at tk
    dsimp only
    generalize st ++ [wdO (Txt.split t " ") 0] = S0 at *
    clear ok er
    unfold m_path_read d_path_read
    simp -implicitDefEqProofs [mk, im, e2, tk]
  | ok z =>
    obtain ⟨p, k⟩ := z
    have e2 := ok p k hr
    rw [set_mid] at e2
    have g2 : (st ++ [wdO (Txt.split t " ") k])[st.length]? = some (wdO (Txt.split t " ") k) := get_mid st [] _
    have i2 := w_meth g2 (mn := "end") (by decide) (by decide)
    have e3 := fun st => r_is_path (pthD p) st
    have e4 := r_end g2 (pthD p) (isPath (pthD p))
    have tk : (st ++ [wdO (Txt.split t " ") k]).take st.length = st := take_mid _ _
    dsimp only
    clear ok er
    by_cases q : k = (Txt.split t " ").length ∧ isPath (pthD p) = true
    · rw [if_pos q] at e4 ⊢
      dsimp only
      generalize isPath (pthD p) = b at *
      generalize pthD p = PD at *
      generalize st ++ [wdO (Txt.split t " ") 0] = S0 at *
      generalize st ++ [wdO (Txt.split t " ") k] = S1 at *
      unfold m_path_read d_path_read
      simp -implicitDefEqProofs [mk, im, e2, i2, e3, e4, tk]
    · rw [if_neg q] at e4 ⊢
      dsimp only
      have e4 : m_Words_end [.r st.length, .d (pthD p), .d (.bool (isPath (pthD p)))] (st ++ [wdO (Txt.split t " ") k]) = .ex (noT k) (st ++ [wdO (Txt.split t " ") k]) := e4
      generalize isPath (pthD p) = b at *
      generalize pthD p = PD at *
      generalize st ++ [wdO (Txt.split t " ") 0] = S0 at *
      generalize st ++ [wdO (Txt.split t " ") k] = S1 at *
      unfold m_path_read d_path_read
      simp -implicitDefEqProofs [mk, im, e2, i2, e3, e4, tk]
end
section
variable [Tbl] [FnA]
/-! ## a path's words -/
def shI (i : Int) : Str := Str.ofString (toString i)
def legW (l : Str × Int) : List Str := [l.1, shI l.2]
def pthW (p : Pth) : List Str := [shI p.1, shI p.2.1] ++ p.2.2.flatMap legW
theorem pw_go (v0 : Option Wv) (st : Sto) : ∀ (ls : List (Str × Int)) (F : List Str), F.length + 2 * ls.length ≤ 1000000 → (∀ l ∈ ls, l.2.natAbs < 10 ^ 40) → forL (gTp (gCn (gN 2) (gCn (gN 3) gNl))) d_path_words_l1 [] (ls.map legD) [v0, some (.d (.list (F.map .str))), none, none] st = .nx [v0, some (.d (.list ((F ++ ls.flatMap legW).map .str))), none, none] st
  | [], F, _, _ => by simp
  | l :: ls, F, h, hb => by
    rw [List.length_cons] at h
    have ih := pw_go v0 st ls (F ++ legW l) (by rw [List.length_append]; show F.length + 2 + _ ≤ _; omega) fun x hx => hb x (by simp [hx])
    have g : gTp (gCn (gN 2) (gCn (gN 3) gNl)) (.d (legD l)) [v0, some (.d (.list (F.map .str))), none, none] = some [v0, some (.d (.list (F.map .str))), some (.d (.str l.1)), some (.d (.int (l.2)))] := rfl
    have s : strF [.int l.2] = some (.str (shI l.2)) := o_str (hb l (by simp))
    have lw : ∀ a b st, lstW [.d a, .d b] st = .ok (.d (.list [a, b])) st := fun a b st => rfl
    have ad : addD (.list (F.map .str)) (.list [.str l.1, .str (shI l.2)]) = some (.list ((F ++ legW l).map .str)) := by
      rw [o_add_l, if_pos (by rw [List.length_map]; show F.length + 2 ≤ _; omega), List.map_append]; rfl
    have t : d_path_words_l1 [v0, some (.d (.list (F.map .str))), some (.d (.str l.1)), some (.d (.int (l.2)))] st = .nx [v0, some (.d (.list ((F ++ legW l).map .str))), none, none] st := by
      generalize (F ++ legW l).map PyData.str = R at *
      generalize F.map PyData.str = FF at *
      generalize shI l.2 = SI at *
      unfold d_path_words_l1
      simp -implicitDefEqProofs [s, lw, ad, -o_add_l]
    rw [List.map_cons, forL_cons, g]
    dsimp only
    rw [t, show ∀ (env : En) (st : Sto) (k : En → Sto → SR), (SR.nx env st).seq k = k env st from fun _ _ _ => rfl, ih, List.flatMap_cons, List.append_assoc]
end
section
variable [Tbl] [FnA]
/-! ## path_words, path_shown -/
theorem r_path_words {p : Pth} (hx : p.1.natAbs < 10 ^ 40) (hy : p.2.1.natAbs < 10 ^ 40) (hl : p.2.2.length ≤ 1000) (hb : ∀ l ∈ p.2.2, l.2.natAbs < 10 ^ 40) (st : Sto) : m_path_words [.d (pthD p)] st = .ok (.d (.list ((pthW p).map .str))) st := by
  have x0 : ixD (pthD p) (.int 0) = some (.int p.1) := rfl
  have x1 : ixD (pthD p) (.int 1) = some (.int p.2.1) := rfl
  have x2 : ixD (pthD p) (.int 2) = some (.tuple (p.2.2.map legD)) := rfl
  have s0 : strF [.int p.1] = some (.str (shI p.1)) := o_str hx
  have s1 : strF [.int p.2.1] = some (.str (shI p.2.1)) := o_str hy
  have lw : ∀ a b st, lstW [.d a, .d b] st = .ok (.d (.list [a, b])) st := fun a b st => rfl
  have go := pw_go (some (.d (pthD p))) st p.2.2 [shI p.1, shI p.2.1] (by show 2 + _ ≤ _; omega) hb
  have go : forL (gTp (gCn (gN 2) (gCn (gN 3) gNl))) d_path_words_l1 [] (p.2.2.map legD) [some (.d (pthD p)), some (.d (.list [.str (shI p.1), .str (shI p.2.1)])), none, none] st = .nx [some (.d (pthD p)), some (.d (.list ((pthW p).map .str))), none, none] st := go
  have sd : ∀ xs st, srcW (.d (.tuple xs)) st = .ok ⟨xs, []⟩ st := fun xs st => rfl
  generalize (pthW p).map PyData.str = R at *
  generalize p.2.2.map legD = LL at *
  generalize pthD p = PD at *
  generalize shI p.1 = S0 at *
  generalize shI p.2.1 = S1 at *
  unfold m_path_words d_path_words
  simp -implicitDefEqProofs [x0, x1, x2, s0, s1, lw, sd, go, -forL_cons]
end
section
variable [Tbl] [FnA]
/-! ## path_shown -/
theorem r_need_pathA (d : PyData) (st : Sto) : m_need_path [.d d] st = if isPath d = true then .ok (.d .none) st else .ex ⟨"NoPath", []⟩ st := by
  have e := fun st => r_is_path d st
  generalize isPath d = b at *
  unfold m_need_path d_need_path
  cases b <;> simp -implicitDefEqProofs [e]
theorem r_path_shownX {d : PyData} (h : isPath d = false) (st : Sto) : m_path_shown [.d d] st = .ex ⟨"NoPath", []⟩ st := by
  have e := fun st => r_need_pathA d st
  rw [h] at e
  have e : ∀ st, m_need_path [.d d] st = .ex ⟨"NoPath", []⟩ st := e
  unfold m_path_shown d_path_shown
  simp -implicitDefEqProofs [e]
theorem r_path_shown {p : Pth} (h : isPath (pthD p) = true) (hx : p.1.natAbs < 10 ^ 40) (hy : p.2.1.natAbs < 10 ^ 40) (hl : p.2.2.length ≤ 1000) (hb : ∀ l ∈ p.2.2, l.2.natAbs < 10 ^ 40) (hz : ((pthW p).map (·.length)).sum + (pthW p).length * (" " : Str).length ≤ 1000000) (st : Sto) : m_path_shown [.d (pthD p)] st = .ok (.d (.str (Txt.join " " (pthW p)))) st := by
  have e := fun st => r_need_pathA (pthD p) st
  rw [h] at e
  have e : ∀ st, m_need_path [.d (pthD p)] st = .ok (.d .none) st := e
  have w := fun st => r_path_words hx hy hl hb st
  have j : jnD (.str " ") (.list ((pthW p).map .str)) = some (.str (Txt.join " " (pthW p))) := by
    show (match strsOf ((pthW p).map .str) with
      | some (ys : List Str) => if (ys.map Str.length).sum + ys.length * (" " : Str).length ≤ 1000000 then some (PyData.str (Txt.join " " ys)) else none
      | none => none) = _
    rw [strsOf_map]
    exact if_pos hz
  generalize (pthW p).map PyData.str = R at *
  generalize Txt.join " " (pthW p) = T at *
  generalize pthD p = PD at *
  unfold m_path_shown d_path_shown
  simp -implicitDefEqProofs [e, w, j]
end
section
variable [Tbl] [FnA]
/-! ## the law's look at a number -/
theorem len0_eq {z : Str} (h : z.length = 0) : z = "" := by
  have := (TL.len0_tl z).mp h
  exact TL.ext_tl (by rw [this]; decide +kernel)
theorem nau_is {w : Str} {c : Nat} (hc : (bareS w).cps.toList.head? = some c) : nauB w = (decide (c = 48) && !(w == ("0" : Str))) := by
  have b0 : bareS "0" = "0" := by decide +kernel
  unfold nauB
  rw [hc, show decide (some c = some 48) = decide (c = 48) by rw [decide_eq_decide, Option.some.injEq]]
  congr 1
  by_cases q : w = "0"
  · subst q
    rw [b0]
    decide +kernel
  · rw [show (w == ("0" : Str)) = false from by simpa using q]
    by_cases r : bareS w = "0"
    · have : ¬ bareS w = w := fun z => q (z.symm.trans r)
      simp [this]
    · simp [r]
theorem r_law_number {w : Str} (hw : w.length ≤ 1000000) (st : Sto) : m__law_number [.d (.str w)] st = .ok (.d (encI (numI w))) st := by
  have s1 : slD none (some 1) (.str w) = some (.str (cutS w none (some 1))) := if_pos hw
  have s2 : slD (some 1) none (.str w) = some (.str (cutS w (some 1) none)) := if_pos hw
  have hbl : (bareS w).length ≤ w.length := by
    unfold bareS
    split
    · exact cutS_length _ _ _
    · exact Nat.le_refl _
  have ln : lenF [.str (bareS w)] = some (.int ((bareS w).length : Int)) := if_pos (by omega)
  have hl : (bareS w).cps.toList.length = (bareS w).length := Array.length_toList
  have sl : ((bareS w).cps.toList.map sgnD).length ≤ 1000000 := by rw [List.length_map]; omega
  have nf : lcL (gN 3) (tBl (eOp2 niD (eVar 3) (eK (.str "0123456789")))) (eVar 3) [] [some (.d (.str w)), some (.d (.str (bareS w))), none, none] ((bareS w).cps.toList.map sgnD) [] st = .ok (((bareS w).cps.toList.filter fun c => !decide (48 ≤ c ∧ c ≤ 57)).map sgnD) st := no_fig (j := 3) (env := [some (.d (.str w)), some (.d (.str (bareS w))), none, none]) (st := st) (bareS w) fun x => ⟨_, rfl, rfl⟩
  have nz := ne_sgn ((bareS w).cps.toList.filter fun c => !decide (48 ≤ c ∧ c ≤ 57))
  rw [fil_dig] at nz
  have src : ∀ st, srcW (.d (.str (bareS w))) st = .ok ⟨(bareS w).cps.toList.map sgnD, []⟩ st := fun st => rfl
  have e0 : eqD (.str (bareS w)) (.str "") = some (.bool (bareS w == "")) := o_eq_s _ _
  have ez : eqD (.str w) (.str "0") = some (.bool (w == "0")) := o_eq_s _ _
  obtain ⟨T, hT⟩ : ∃ T, T = (sSeq (sIf (tOr2 (tBl (eOp2 eqD (eVar 1) (eK (.str "")))) (tOr2 (tBl (eOp2 gtD (eOpN lenF (aCons (eVar 1) aNil)) (eK (.int 30)))) (tBl (eOp2 neD (eLc (cSeq (eVar 1)) (gN 3) (tBl (eOp2 niD (eVar 3) (eK (.str "0123456789")))) (eVar 3) [2, 3]) (eLst aNil))))) (sRet (eK .none)) sNil)
    (sRet (eIf (tOr2 (tBl (eOp2 neD (eOp2 ixD (eVar 1) (eK (.int 0))) (eK (.str "0")))) (tBl (eOp2 eqD (eVar 0) (eK (.str "0"))))) (eOpN intT (aCons (eVar 0) aNil)) (eK .none)))) := ⟨_, rfl⟩
  have tail : T [some (.d (.str w)), some (.d (.str (bareS w))), none, none] st = .rt (.w (.d (encI (numI w)))) st := by
    rw [hT]
    have lw0 : ∀ st, lstW [] st = .ok (.d (.list [])) st := fun st => rfl
    by_cases c0 : (bareS w).length = 0
    · rw [numI_no fun z => by omega]
      rw [len0_eq c0, show ((("" : Str)) == "") = true from by simp] at e0
      rw [len0_eq c0]
      clear nf nz src ln
      simp -implicitDefEqProofs [e0, encI, -o_eq_s]
    · have ne0 : (bareS w == "") = false := by
        rw [beq_eq_false_iff_ne]
        intro z
        rw [z] at c0
        exact c0 (by decide +kernel)
      rw [ne0] at e0
      by_cases c2 : (bareS w).length ≤ 30
      · have d2 : ¬ (30 : Int) < ((bareS w).length : Int) := by omega
        cases hd : digB (bareS w) with
        | false =>
          rw [numI_no fun z => by rw [hd] at z; exact Bool.false_ne_true z.2.2.1]
          rw [hd] at nz
          generalize ((bareS w).cps.toList.filter fun c => !decide (48 ≤ c ∧ c ≤ 57)).map sgnD = FL at *
          generalize (bareS w).cps.toList.map sgnD = SL at *
          generalize ((bareS w).length : Int) = N at *
          simp -implicitDefEqProofs [ln, e0, d2, src, sl, wipeE, nf, lw0, nz, encI, -o_eq_s]
        | true =>
          rw [hd] at nz
          obtain ⟨n, en, nl⟩ := num_is (by omega) c2 hd
          obtain ⟨c, hc, ix⟩ := ix_bare (z := bareS w) (by omega) (by omega)
          have z0 : neD (sgnD c) (.str "0") = some (.bool (!decide (c = 48))) := by
            have := sgn_zero c
            show neD (.str ⟨#[c]⟩) (.str "0") = _
            have this : eqD (.str ⟨#[c]⟩) (.str "0") = some (.bool (decide (c = 48))) := this
            rw [o_eq_s] at this
            rw [o_ne_s]
            injection this with this
            injection this with this
            rw [this]
          have it : intT [.str w] = some (.int n) := by
            show (match PySem.intText? w with
              | some n => if w.length ≤ 640 then some (PyData.int n) else none
              | none => none) = _
            rw [en]
            exact if_pos (by omega)
          have hn := nau_is hc
          cases hb : nauB w with
          | true =>
            rw [numI_no fun z => by rw [hb] at z; exact Bool.false_ne_true z.2.2.2.symm]
            rw [hb] at hn
            generalize ((bareS w).cps.toList.filter fun c => !decide (48 ≤ c ∧ c ≤ 57)).map sgnD = FL at *
            generalize (bareS w).cps.toList.map sgnD = SL at *
            generalize ((bareS w).length : Int) = N at *
            generalize (w == ("0" : Str)) = b1 at *
            generalize decide (c = 48) = b0 at *
            generalize sgnD c = SG at *
            cases b0 <;> cases b1 <;> first | (exact absurd hn (by decide)) | simp -implicitDefEqProofs [ln, e0, d2, src, sl, wipeE, nf, lw0, nz, encI, ix, z0, ez, it, -o_ne_s, -o_eq_s]
          | false =>
            rw [show numI w = some n from (if_pos ⟨by omega, c2, hd, hb⟩).trans en]
            rw [hb] at hn
            generalize ((bareS w).cps.toList.filter fun c => !decide (48 ≤ c ∧ c ≤ 57)).map sgnD = FL at *
            generalize (bareS w).cps.toList.map sgnD = SL at *
            generalize ((bareS w).length : Int) = N at *
            generalize (w == ("0" : Str)) = b1 at *
            generalize decide (c = 48) = b0 at *
            generalize sgnD c = SG at *
            cases b0 <;> cases b1 <;> first | (exact absurd hn (by decide)) | simp -implicitDefEqProofs [ln, e0, d2, src, sl, wipeE, nf, lw0, nz, encI, ix, z0, ez, it, -o_ne_s, -o_eq_s]
      · have d2 : (30 : Int) < ((bareS w).length : Int) := by omega
        rw [numI_no fun z => c2 z.2.1]
        clear nf nz src
        generalize ((bareS w).length : Int) = N at *
        simp -implicitDefEqProofs [ln, e0, d2, encI, -o_eq_s]
  have hd : d__law_number = sSeq (sSet 1 (eIf (tBl (eOp2 eqD (eSlice (eVar 0) pNo (pSome (eK (.int 1)))) (eK (.str "-")))) (eSlice (eVar 0) (pSome (eK (.int 1))) pNo) (eVar 0))) T := by rw [hT]; rfl
  unfold m__law_number
  rw [hd]
  clear hT hd
  by_cases q : cutS w none (some 1) = "-"
  · have hB : bareS w = cutS w (some 1) none := if_pos q
    have em : eqD (.str (cutS w none (some 1))) (.str "-") = some (.bool true) := by rw [o_eq_s, q]; rfl
    clear nf nz src sl ln hl hbl e0 ez q
    rw [hB] at tail
    clear hB
    generalize cutS w none (some 1) = P1 at *
    generalize cutS w (some 1) none = P2 at *
    generalize numI w = R at *
    simp -implicitDefEqProofs [s1, em, s2, tail, -o_eq_s]
  · have hB : bareS w = w := if_neg q
    have em : eqD (.str (cutS w none (some 1))) (.str "-") = some (.bool false) := by
      rw [o_eq_s]
      congr 2
      simpa using q
    clear nf nz src sl ln hl hbl e0 ez q
    rw [hB] at tail
    clear hB
    generalize cutS w none (some 1) = P1 at *
    generalize numI w = R at *
    simp -implicitDefEqProofs [s1, em, tail, -o_eq_s]
end
section
variable [Tbl] [FnA]
open PySem.W (Datum DatumOrd)
/-! ## the law's reading of a path -/
theorem wh_succ (t : En → Sto → Rs Bool) (b : En → Sto → SR) (f : Nat) (env : En) (st : Sto) : whL t b (f + 1) env st = (t env st).sb fun x st1 => if x = true then (b env st1).seq (whL t b f) else .nx env st1 := rfl
theorem nx_seq (env : En) (st : Sto) (k : En → Sto → SR) : (SR.nx env st).seq k = k env st := rfl
theorem rd_succ (ws : List Str) (f h : Nat) : rdLegs ws (f + 1) h = match wayAt waysL ws h with
    | none => .ok ([], h)
    | some w => match numAt ws (h + 1) with
      | none => .error (h + 1)
      | some n => match rdLegs ws f (h + 2) with
        | .ok (l, k) => .ok ((w, n) :: l, k)
        | .error e => .error e := rfl
theorem rd_fuel (ws : List Str) : ∀ f h, ws.length < f + h → rdLegs ws (f + 1) h = rdLegs ws f h
  | 0, h, hl => by
    rw [rd_succ, show wayAt waysL ws h = none from if_neg fun z => by omega]
    rfl
  | f + 1, h, hl => by
    rw [rd_succ ws (f + 1) h, rd_succ ws f h, rd_fuel ws f (h + 2) (by omega)]
section
variable {ws : List Str} {st : Sto}
theorem word_at {h : Nat} (hl : h < ws.length) : ixD (.list (ws.map .str)) (.int (h : Int)) = some (.str (ws.getD h Str.empty)) := by
  show atD (ws.map PyData.str) (h : Int) = _
  rw [atD_nat, List.getElem?_map, List.getElem?_eq_getElem hl, List.getD_eq_getElem?_getD, List.getElem?_eq_getElem hl]; rfl
theorem word_mem {h : Nat} (hl : h < ws.length) : ws.getD h Str.empty ∈ ws := by
  rw [List.getD_eq_getElem?_getD, List.getElem?_eq_getElem hl]
  exact List.getElem_mem hl
theorem num_here {env : En} {ek : En → Sto → Rs Wv} {k : Nat} (hw : ∀ w ∈ ws, w.length ≤ 1000000) (he : ∀ st, ek env st = .ok (.d (.int ((k : Int)))) st) (h0 : env[0]? = some (some (.d (.list (ws.map .str))))) (hk : k < ws.length) (st : Sto) : eCall m__law_number (aCons (eOp2 ixD (eVar 0) ek) aNil) env st = .ok (.d (encI (numAt ws k))) st := by
  have ix := word_at hk
  have e := fun st => r_law_number (hw _ (word_mem hk)) st
  rw [show numAt ws k = numI (ws.getD k Str.empty) from if_pos hk]
  have v0 : ∀ st, eVar 0 env st = .ok (.d (.list (ws.map .str))) st := fun st => by rw [x_var, h0]
  generalize ws.getD k Str.empty = W at *
  generalize ws.map PyData.str = WS at *
  generalize (k : Int) = K at *
  rw [x_call, x_cons, x_op2, v0]
  simp -implicitDefEqProofs [he, ix, e, -x_var]
theorem num_test {env : En} {ek : En → Sto → Rs Wv} {k : Nat} (hw : ∀ w ∈ ws, w.length ≤ 1000000) (he : ∀ st, ek env st = .ok (.d (.int ((k : Int)))) st) (h0 : env[0]? = some (some (.d (.list (ws.map .str))))) (st : Sto) : tOr2 (tBl (eOp2 geD ek (eOpN lenF (aCons (eVar 0) aNil)))) (tBl (eOp2 isND (eCall m__law_number (aCons (eOp2 ixD (eVar 0) ek) aNil)) (eK .none))) env st = .ok ((numAt ws k).isNone) st := by
  have v0 : ∀ st, eVar 0 env st = .ok (.d (.list (ws.map .str))) st := fun st => by rw [x_var, h0]
  have ln : lenF [.list (ws.map PyData.str)] = some (.int (ws.length : Int)) := by simp
  by_cases hk : k < ws.length
  · have e := fun st => num_here hw he h0 hk st
    have d : ¬ (ws.length : Int) ≤ (k : Int) := by omega
    have n : isNone (encI (numAt ws k)) = (numAt ws k).isNone := by cases numAt ws k <;> rfl
    generalize numAt ws k = NA at *
    generalize ws.map PyData.str = WS at *
    generalize (k : Int) = K at *
    generalize (ws.length : Int) = L at *
    generalize eCall m__law_number (aCons (eOp2 ixD (eVar 0) ek) aNil) = NH at *
    rw [x_or, x_bl, x_op2, he]
    generalize encI NA = EN at *
    generalize eVar 0 = EV at *
    simp -implicitDefEqProofs [v0, ln, d, n, e]
  · have d : (ws.length : Int) ≤ (k : Int) := by omega
    rw [show numAt ws k = none from if_neg hk]
    generalize ws.map PyData.str = WS at *
    generalize (k : Int) = K at *
    generalize (ws.length : Int) = L at *
    rw [x_or, x_bl, x_op2, he]
    generalize eVar 0 = EV at *
    simp -implicitDefEqProofs [v0, ln, d]
def EF (ws : List Str) (n h : Nat) : En := [some (.d (.list (ws.map .str))), some (.d (.list (waysL.map .str))), some (.r n), some (.d (.int ((h : Int)))), none]
def SF (st : Sto) (l : List (Str × Int)) : Sto := st ++ [.lst (l.map legD)]
noncomputable def tF : En → Sto → Rs Bool := tOr2 (tBl (eOp2 eqD (eVar 2) (eLst aNil))) (tAnd2 (tBl (eOp2 ltD (eVar 3) (eOpN lenF (aCons (eVar 0) aNil)))) (tBl (eOp2 inD (eOp2 ixD (eVar 0) (eVar 3)) (eVar 1))))
noncomputable def bF : En → Sto → SR := (sSeq (sIf (tOr2 (tBl (eOp2 geD (eVar 3) (eOpN lenF (aCons (eVar 0) aNil)))) (tBl (eOp2 niD (eOp2 ixD (eVar 0) (eVar 3)) (eVar 1)))) (sRet (eTup (aCons (eK (.str "text")) (aCons (eVar 3) aNil)))) sNil)
    (sSeq (sIf (tOr2 (tBl (eOp2 geD (eOp2 addD (eVar 3) (eK (.int 1))) (eOpN lenF (aCons (eVar 0) aNil)))) (tBl (eOp2 isND (eCall m__law_number (aCons (eOp2 ixD (eVar 0) (eOp2 addD (eVar 3) (eK (.int 1)))) aNil)) (eK .none)))) (sRet (eTup (aCons (eK (.str "text")) (aCons (eOp2 addD (eVar 3) (eK (.int 1))) aNil)))) sNil)
    (sSeq (sExp (eM appW (eVar 2) (aCons (eTup (aCons (eOp2 ixD (eVar 0) (eVar 3)) (aCons (eCall m__law_number (aCons (eOp2 ixD (eVar 0) (eOp2 addD (eVar 3) (eK (.int 1)))) aNil)) aNil))) aNil)))
    (sSet 3 (eOp2 addD (eVar 3) (eK (.int 2)))))))
theorem ways_inL (w : Str) : inD (.str w) (.list (waysL.map .str)) = some (.bool (decide (w ∈ waysL))) := q_in_l w waysL
theorem ways_niL (w : Str) : niD (.str w) (.list (waysL.map .str)) = some (.bool (!decide (w ∈ waysL))) := q_ni_l w waysL
theorem way_some {h : Nat} (hl : h < ws.length) : decide (ws.getD h Str.empty ∈ waysL) = (wayAt waysL ws h).isSome := by
  unfold wayAt
  by_cases q : ws.getD h Str.empty ∈ waysL
  · rw [if_pos ⟨hl, q⟩, decide_eq_true q]; rfl
  · rw [if_neg fun z => q z.2, decide_eq_false q]; rfl
theorem way_none {h : Nat} (hl : ¬ h < ws.length) : wayAt waysL ws h = none := if_neg fun z => hl z.1
theorem way_test (n h : Nat) (st : Sto) : tOr2 (tBl (eOp2 geD (eVar 3) (eOpN lenF (aCons (eVar 0) aNil)))) (tBl (eOp2 niD (eOp2 ixD (eVar 0) (eVar 3)) (eVar 1))) (EF ws n h) st = .ok ((wayAt waysL ws h).isNone) st := by
  have ln : lenF [.list (ws.map PyData.str)] = some (.int (ws.length : Int)) := by simp
  unfold EF
  by_cases hl : h < ws.length
  · have ix := word_at hl
    have ni := ways_niL (ws.getD h Str.empty)
    rw [way_some hl] at ni
    have d : ¬ (ws.length : Int) ≤ (h : Int) := by omega
    generalize ws.getD h Str.empty = W at *
    generalize ws.map PyData.str = WS at *
    generalize waysL.map PyData.str = WY at *
    generalize (h : Int) = K at *
    generalize (ws.length : Int) = L at *
    generalize wayAt waysL ws h = WA at *
    cases WA <;> simp -implicitDefEqProofs [ln, d, ix, ni]
  · rw [way_none hl]
    have d : (ws.length : Int) ≤ (h : Int) := by omega
    generalize ws.map PyData.str = WS at *
    generalize waysL.map PyData.str = WY at *
    generalize (h : Int) = K at *
    generalize (ws.length : Int) = L at *
    simp -implicitDefEqProofs [ln, d]
theorem sf_at (l : List (Str × Int)) : (SF st l)[st.length]? = some (.lst (l.map legD)) := get_mid st [] _
theorem sf_set (l l' : List (Str × Int)) : (SF st l).set st.length (.lst (l'.map legD)) = SF st l' := set_mid st [] _ _
theorem tF_is (h : Nat) (l : List (Str × Int)) : tF (EF ws st.length h) (SF st l) = .ok (decide (l = []) || (wayAt waysL ws h).isSome) (SF st l) := by
  have lk := look1_l (sf_at (st := st) l)
  have eq : eqD (.list (l.map legD)) (.list []) = some (.bool (decide (l = []))) := q_eq l []
  have ln : lenF [.list (ws.map PyData.str)] = some (.int (ws.length : Int)) := by simp
  have lw0 : ∀ st, lstW [] st = .ok (.d (.list [])) st := fun st => rfl
  unfold tF EF
  generalize decide (l = []) = b at *
  generalize l.map legD = LL at *
  generalize SF st l = S at *
  generalize st.length = n at *
  by_cases hl : h < ws.length
  · have ix := word_at hl
    have ni := ways_inL (ws.getD h Str.empty)
    rw [way_some hl] at ni
    have d : (h : Int) < (ws.length : Int) := by omega
    generalize ws.getD h Str.empty = W at *
    generalize ws.map PyData.str = WS at *
    generalize waysL.map PyData.str = WY at *
    generalize (h : Int) = K at *
    generalize (ws.length : Int) = L at *
    generalize wayAt waysL ws h = WA at *
    cases WA <;> cases b <;> simp -implicitDefEqProofs [ln, d, ix, ni, lk, eq, lw0]
  · rw [way_none hl]
    have d : ¬ (h : Int) < (ws.length : Int) := by omega
    generalize ws.map PyData.str = WS at *
    generalize waysL.map PyData.str = WY at *
    generalize (h : Int) = K at *
    generalize (ws.length : Int) = L at *
    cases b <;> simp -implicitDefEqProofs [ln, d, lk, eq, lw0]
def txE (e : Nat) : PyData := .tuple [.str "text", .int (e : Int)]
theorem ev3 (n h : Nat) (st : Sto) : eOp2 addD (eVar 3) (eK (.int 1)) (EF ws n h) st = .ok (.d (.int (((h + 1 : Nat) : Int)))) st := rfl
theorem bF_e1 {h : Nat} (n : Nat) (hy : wayAt waysL ws h = none) (st : Sto) : bF (EF ws n h) st = .rt (.w (.d (txE h))) st := by
  have t := way_test (ws := ws) n h st
  rw [hy] at t
  have t2 : ∀ a b st, tupW [.d a, .d b] st = .ok (.d (.tuple [a, b])) st := fun a b st => rfl
  have v3 : ∀ st, eVar 3 (EF ws n h) st = .ok (.d (.int ((h : Int)))) st := fun st => rfl
  unfold bF
  rw [x_seq, x_if, t]
  generalize EF ws n h = E at *
  simp -implicitDefEqProofs [v3, t2, txE, -x_var]
theorem bF_e2 {h : Nat} {w : Str} (n : Nat) (hw : ∀ w ∈ ws, w.length ≤ 1000000) (hy : wayAt waysL ws h = some w) (hk : numAt ws (h + 1) = none) (st : Sto) : bF (EF ws n h) st = .rt (.w (.d (txE (h + 1)))) st := by
  have t := way_test (ws := ws) n h st
  rw [hy] at t
  have u := num_test (env := EF ws n h) (ek := eOp2 addD (eVar 3) (eK (.int 1))) hw (ev3 n h) rfl st
  rw [hk] at u
  have t2 : ∀ a b st, tupW [.d a, .d b] st = .ok (.d (.tuple [a, b])) st := fun a b st => rfl
  have v3 := ev3 (ws := ws) n h
  unfold bF
  rw [x_seq, x_if, t]
  rw [Rs.sb_ok, if_neg (fun z => Bool.noConfusion z), x_snil, nx_seq, x_seq, x_if, u]
  generalize eOp2 addD (eVar 3) (eK (.int 1)) = EK at *
  generalize EF ws n h = E at *
  simp -implicitDefEqProofs [v3, t2, txE, -x_var]
theorem bF_ok {h : Nat} {w : Str} {k : Int} {l : List (Str × Int)} (hw : ∀ w ∈ ws, w.length ≤ 1000000) (hy : wayAt waysL ws h = some w) (hk : numAt ws (h + 1) = some k) (hl : l.length < 1000000) : bF (EF ws st.length h) (SF st l) = .nx (EF ws st.length (h + 2)) (SF st (l ++ [(w, k)])) := by
  have t := way_test (ws := ws) st.length h (SF st l)
  rw [hy] at t
  have u := num_test (env := EF ws st.length h) (ek := eOp2 addD (eVar 3) (eK (.int 1))) hw (ev3 st.length h) rfl (SF st l)
  rw [hk] at u
  have nh := fun st' => num_here (env := EF ws st.length h) (ek := eOp2 addD (eVar 3) (eK (.int 1))) hw (ev3 st.length h) rfl (num_lt hk) st'
  rw [hk] at nh
  have q : h < ws.length ∧ ws.getD h Str.empty = w := by
    unfold wayAt at hy
    split at hy
    · rename_i z; exact ⟨z.1, Option.some.inj hy⟩
    · cases hy
  have ix := word_at q.1
  rw [q.2] at ix
  have t2 : ∀ a b st, tupW [.d a, .d b] st = .ok (.d (.tuple [a, b])) st := fun a b st => rfl
  have wx : ∀ st', eOp2 ixD (eVar 0) (eVar 3) (EF ws st.length h) st' = .ok (.d (.str w)) st' := fun st' => by
    unfold EF
    generalize ws.map PyData.str = WS at *
    generalize (h : Int) = K at *
    simp -implicitDefEqProofs [ix]
  have il := isLst_l (sf_at (st := st) l)
  have ap := appW_l (sf_at (st := st) l) (by rw [List.length_map]; exact hl) (legD (w, k))
  rw [show l.map legD ++ [legD (w, k)] = (l ++ [(w, k)]).map legD by rw [List.map_append]; rfl, sf_set] at ap
  have v2 : ∀ st', eVar 2 (EF ws st.length h) st' = .ok (.r st.length) st' := fun st' => rfl
  have s3 : ∀ st', sSet 3 (eOp2 addD (eVar 3) (eK (.int 2))) (EF ws st.length h) st' = .nx (EF ws st.length (h + 2)) st' := fun st' => rfl
  unfold bF
  rw [x_seq, x_if, t]
  rw [Rs.sb_ok, if_neg (fun z => Bool.noConfusion z), x_snil, nx_seq, x_seq, x_if, u]
  rw [Rs.sb_ok, if_neg (fun z => Bool.noConfusion z), x_snil, nx_seq, x_seq, x_exp, x_meth, v2]
  generalize eCall m__law_number (aCons (eOp2 ixD (eVar 0) (eOp2 addD (eVar 3) (eK (.int 1)))) aNil) = NH at *
  generalize eOp2 ixD (eVar 0) (eVar 3) = WX at *
  generalize sSet 3 (eOp2 addD (eVar 3) (eK (.int 2))) = S3 at *
  generalize EF ws st.length (h + 2) = E2 at *
  generalize EF ws st.length h = E at *
  have t3 : ∀ st', tupW [.d (.str w), .d (encI (some k))] st' = .ok (.d (legD (w, k))) st' := fun st' => rfl
  generalize legD (w, k) = LD at *
  generalize encI (some k) = EK at *
  generalize SF st (l ++ [(w, k)]) = S1 at *
  generalize SF st l = S0 at *
  simp -implicitDefEqProofs [il, wx, nh, t3, ap, s3]
theorem lf_go (hw : ∀ w ∈ ws, w.length ≤ 1000000) : ∀ (f h : Nat) (l : List (Str × Int)), l ≠ [] → h ≤ ws.length → ws.length < f + h → l.length + f < 1000000 →
    (∀ m k, rdLegs ws f h = .ok (m, k) → whL tF bF f (EF ws st.length h) (SF st l) = .nx (EF ws st.length k) (SF st (l ++ m))) ∧
    (∀ e, rdLegs ws f h = .error e → ∃ l', whL tF bF f (EF ws st.length h) (SF st l) = .rt (.w (.d (txE e))) (SF st l'))
  | 0, h, l, h0, h1, h2, h3 => by omega
  | f + 1, h, l, h0, h1, h2, h3 => by
    have t := tF_is (ws := ws) (st := st) h l
    rw [decide_eq_false h0, Bool.false_or] at t
    rw [wh_succ, t, rd_succ]
    cases hy : wayAt waysL ws h with
    | none =>
      dsimp only
      refine ⟨fun m k hr => ?_, fun e hr => nomatch hr⟩
      cases hr
      rw [List.append_nil]; rfl
    | some w =>
      dsimp only
      cases hn : numAt ws (h + 1) with
      | none =>
        have b := bF_e2 (ws := ws) st.length hw hy hn (SF st l)
        dsimp only
        refine ⟨fun m k hr => (nomatch hr), fun e' hr => ?_⟩
        cases hr
        refine ⟨l, ?_⟩
        show (bF _ _).seq _ = _
        rw [b]; rfl
      | some n =>
        have b := bF_ok (st := st) (l := l) hw hy hn (by omega)
        have q2 := num_lt hn
        obtain ⟨i1, i2⟩ := lf_go hw f (h + 2) (l ++ [(w, n)]) (by simp) (by omega) (by omega) (by rw [List.length_append, List.length_singleton]; omega)
        have e : (Rs.ok (some w).isSome (SF st l)).sb (fun x st1 => if x = true then (bF (EF ws st.length h) st1).seq (whL tF bF f) else .nx (EF ws st.length h) st1) = whL tF bF f (EF ws st.length (h + 2)) (SF st (l ++ [(w, n)])) := by
          show (bF _ _).seq _ = _
          rw [b]; rfl
        dsimp only
        rw [e]
        cases hr : rdLegs ws f (h + 2) with
        | ok p =>
          obtain ⟨m, k⟩ := p
          refine ⟨fun m' k' hr' => ?_, fun e' hr' => nomatch hr'⟩
          cases hr'
          rw [i1 m k hr, List.append_assoc]; rfl
        | error e' =>
          refine ⟨fun m' k' hr' => (nomatch hr'), fun e2 hr' => ?_⟩
          cases hr'
          exact i2 _ hr
end
end
section
variable [Tbl] [FnA]
open PySem.W (Datum DatumOrd)
/-! ## the law's form of a path -/
def outD : Except Nat (Pth × Nat) → PyData
  | .ok (p, k) => .tuple [pthD p, .int (k : Int)]
  | .error e => txE e
section
variable {ws : List Str} {st : Sto}
theorem l1_ok {k : Nat} {n : Nat} {x : Int} (hw : ∀ w ∈ ws, w.length ≤ 1000000) (hk : numAt ws k = some x) (st : Sto) : d__law_path_form_l1 ((EF ws n 2).set 4 (some (.d (.int ((k : Int)))))) st = .nx (EF ws n 2) st := by
  have t := num_test (env := (EF ws n 2).set 4 (some (.d (.int ((k : Int)))))) (ek := eVar 4) (k := k) hw (fun _ => rfl) rfl st
  rw [hk] at t
  unfold d__law_path_form_l1
  generalize hS : sIf (tOr2 (tBl (eOp2 geD (eVar 4) (eOpN lenF (aCons (eVar 0) aNil)))) (tBl (eOp2 isND (eCall m__law_number (aCons (eOp2 ixD (eVar 0) (eVar 4)) aNil)) (eK .none)))) (sRet (eTup (aCons (eK (.str "text")) (aCons (eVar 4) aNil)))) sNil = SI
  have e : SI ((EF ws n 2).set 4 (some (.d (.int ((k : Int)))))) st = .nx ((EF ws n 2).set 4 (some (.d (.int ((k : Int)))))) st := by
    rw [← hS, x_if, t]; rfl
  simp -implicitDefEqProofs [e, wipeE]
  rfl
theorem l1_no {k : Nat} {n : Nat} (hw : ∀ w ∈ ws, w.length ≤ 1000000) (hk : numAt ws k = none) (st : Sto) : d__law_path_form_l1 ((EF ws n 2).set 4 (some (.d (.int ((k : Int)))))) st = .rt (.w (.d (txE k))) st := by
  have t := num_test (env := (EF ws n 2).set 4 (some (.d (.int ((k : Int)))))) (ek := eVar 4) (k := k) hw (fun _ => rfl) rfl st
  rw [hk] at t
  unfold d__law_path_form_l1
  generalize hS : sIf (tOr2 (tBl (eOp2 geD (eVar 4) (eOpN lenF (aCons (eVar 0) aNil)))) (tBl (eOp2 isND (eCall m__law_number (aCons (eOp2 ixD (eVar 0) (eVar 4)) aNil)) (eK .none)))) (sRet (eTup (aCons (eK (.str "text")) (aCons (eVar 4) aNil)))) sNil = SI
  have e : SI ((EF ws n 2).set 4 (some (.d (.int ((k : Int)))))) st = .rt (.w (.d (txE k))) st := by
    rw [← hS, x_if, t]; rfl
  simp -implicitDefEqProofs [e, wipeE]
theorem for_01 (n : Nat) (hw : ∀ w ∈ ws, w.length ≤ 1000000) (st : Sto) : forL (gN 4) d__law_path_form_l1 [] (rangeD 0 2) (EF ws n 2) st = match numAt ws 0 with
    | none => .rt (.w (.d (txE 0))) st
    | some _ => match numAt ws 1 with
      | none => .rt (.w (.d (txE 1))) st
      | some _ => .nx (EF ws n 2) st := by
  rw [show rangeD 0 2 = [PyData.int ((0 : Nat) : Int), .int ((1 : Nat) : Int)] from rfl, forL_cons, x_gN]
  dsimp only
  cases h0 : numAt ws 0 with
  | none => rw [l1_no hw h0]; rfl
  | some x =>
    rw [l1_ok hw h0]
    show forL (gN 4) d__law_path_form_l1 [] [.int ((1 : Nat) : Int)] (EF ws n 2) st = _
    rw [forL_cons, x_gN]
    dsimp only
    cases h1 : numAt ws 1 with
    | none => rw [l1_no hw h1]; rfl
    | some y =>
      rw [l1_ok hw h1]
      show forL (gN 4) d__law_path_form_l1 [] [] (EF ws n 2) st = _
      exact forL_nil _ _ _ _
theorem wh_all (hw : ∀ w ∈ ws, w.length ≤ 1000000) (hn : ws.length ≤ 100000) (h1 : 2 ≤ ws.length) :
    (∀ w n l k, wayAt waysL ws 2 = some w → numAt ws 3 = some n → rdLegs ws 100000 4 = .ok (l, k) → whL tF bF 100000 (EF ws st.length 2) (SF st []) = .nx (EF ws st.length k) (SF st ((w, n) :: l))) ∧
    (∀ w n e, wayAt waysL ws 2 = some w → numAt ws 3 = some n → rdLegs ws 100000 4 = .error e → ∃ l', whL tF bF 100000 (EF ws st.length 2) (SF st []) = .rt (.w (.d (txE e))) (SF st l')) ∧
    (wayAt waysL ws 2 = none → whL tF bF 100000 (EF ws st.length 2) (SF st []) = .rt (.w (.d (txE 2))) (SF st [])) ∧
    (∀ w, wayAt waysL ws 2 = some w → numAt ws 3 = none → whL tF bF 100000 (EF ws st.length 2) (SF st []) = .rt (.w (.d (txE 3))) (SF st [])) := by
  have t := tF_is (ws := ws) (st := st) 2 []
  rw [decide_eq_true (show ([] : List (Str × Int)) = [] from rfl), Bool.true_or] at t
  have fu := rd_fuel ws 99999 4 (by omega)
  have e0 : whL tF bF 100000 (EF ws st.length 2) (SF st []) = (bF (EF ws st.length 2) (SF st [])).seq (whL tF bF 99999) := by
    rw [show (100000 : Nat) = 99999 + 1 from rfl, wh_succ, t]; rfl
  rw [show (100000 : Nat) = 99999 + 1 from rfl] at e0 ⊢
  rw [fu, e0]
  refine ⟨fun w n l k hy hk hr => ?_, fun w n e hy hk hr => ?_, fun hy => ?_, fun w hy hk => ?_⟩
  · rw [bF_ok (st := st) (l := []) hw hy hk (by simp)]
    have l3 := num_lt hk
    exact (lf_go (st := st) hw 99999 4 [(w, n)] (by simp) (by omega) (by omega) (by simp)).1 l k hr
  · rw [bF_ok (st := st) (l := []) hw hy hk (by simp)]
    have l3 := num_lt hk
    exact (lf_go (st := st) hw 99999 4 [(w, n)] (by simp) (by omega) (by omega) (by simp)).2 e hr
  · rw [bF_e1 _ hy]; rfl
  · rw [bF_e2 _ hw hy hk]; rfl
theorem r_law_path_form (hw : ∀ w ∈ ws, w.length ≤ 1000000) (hn : ws.length ≤ 100000) (st : Sto) : m__law_path_form [.d (.list (ws.map .str))] st = .ok (.d (outD (rdPath ws))) st := by
  have hd : d__law_path_form = sSeq (sPar3 1 2 3 (aCons (eLst (aCons (eK (.str "east")) (aCons (eK (.str "north")) (aCons (eK (.str "west")) (aCons (eK (.str "south")) aNil))))) (aCons (eNewL aNil) (aCons (eK (.int 2)) aNil))))
    (sSeq (sFor (cRg1 (aCons (eK (.int 2)) aNil)) (gN 4) d__law_path_form_l1)
    (sSeq (fun env st => whL tF bF 100000 env st)
    (sRet (eTup (aCons (eTup (aCons (eCall m__law_number (aCons (eOp2 ixD (eVar 0) (eK (.int 0))) aNil)) (aCons (eCall m__law_number (aCons (eOp2 ixD (eVar 0) (eK (.int 1))) aNil)) (aCons (eOpN tupF (aCons (eVar 2) aNil)) aNil)))) (aCons (eVar 3) aNil)))))) := rfl
  have par : sPar3 1 2 3 (aCons (eLst (aCons (eK (.str "east")) (aCons (eK (.str "north")) (aCons (eK (.str "west")) (aCons (eK (.str "south")) aNil))))) (aCons (eNewL aNil) (aCons (eK (.int 2)) aNil))) [some (.d (.list (ws.map .str))), none, none, none, none] st = .nx (EF ws st.length 2) (SF st []) := rfl
  have rg : cRg1 (aCons (eK (.int 2)) aNil) (EF ws st.length 2) (SF st []) = .ok ⟨rangeD 0 2, []⟩ (SF st []) := by
    rw [x_rg1]
    exact rg1_ok (i := 2) _ (by decide) (by decide)
  have fr := for_01 (ws := ws) st.length hw (SF st [])
  have tk : ∀ l, (SF st l).take st.length = st := fun l => take_mid _ _
  rw [show m__law_path_form [.d (.list (ws.map .str))] st = endS st.length (d__law_path_form [some (.d (.list (ws.map .str))), none, none, none, none] st) from rfl, hd, x_seq, par, nx_seq, x_seq, x_for, rg, Rs.sb_ok, fr]
  unfold rdPath
  cases h0 : numAt ws 0 with
  | none =>
    dsimp only
    show endS st.length (.rt (.w (.d (txE 0))) (SF st [])) = _
    rw [x_end_d, tk]; rfl
  | some x =>
    dsimp only
    cases h1 : numAt ws 1 with
    | none =>
      dsimp only
      show endS st.length (.rt (.w (.d (txE 1))) (SF st [])) = _
      rw [x_end_d, tk]; rfl
    | some y =>
      dsimp only
      rw [nx_seq, x_seq]
      obtain ⟨w1, w2, w3, w4⟩ := wh_all (st := st) hw hn (by have := num_lt h1; omega)
      cases h2 : wayAt waysL ws 2 with
      | none =>
        dsimp only
        rw [w3 h2]
        show endS st.length (.rt (.w (.d (txE 2))) (SF st [])) = _
        rw [x_end_d, tk]; rfl
      | some w =>
        dsimp only
        cases h3 : numAt ws 3 with
        | none =>
          dsimp only
          rw [w4 w h2 h3]
          show endS st.length (.rt (.w (.d (txE 3))) (SF st [])) = _
          rw [x_end_d, tk]; rfl
        | some n =>
          dsimp only
          cases hr : rdLegs ws 100000 4 with
          | error e =>
            obtain ⟨l', go⟩ := w2 w n e h2 h3 hr
            dsimp only
            rw [go]
            show endS st.length (.rt (.w (.d (txE e))) (SF st l')) = _
            rw [x_end_d, tk]; rfl
          | ok p =>
            obtain ⟨l, k⟩ := p
            dsimp only
            rw [w1 w n l k h2 h3 hr]
            have n0 := fun st' => num_here (env := EF ws st.length k) (ek := eK (.int 0)) (k := 0) hw (fun _ => rfl) rfl (num_lt h0) st'
            have n1 := fun st' => num_here (env := EF ws st.length k) (ek := eK (.int 1)) (k := 1) hw (fun _ => rfl) rfl (num_lt h1) st'
            rw [h0] at n0
            rw [h1] at n1
            have lk := looks_l1 (sf_at (st := st) ((w, n) :: l))
            have v2 : ∀ st', eVar 2 (EF ws st.length k) st' = .ok (.r st.length) st' := fun st' => rfl
            have v3 : ∀ st', eVar 3 (EF ws st.length k) st' = .ok (.d (.int ((k : Int)))) st' := fun st' => rfl
            have t3 : ∀ c st', tupW [.d (encI (some x)), .d (encI (some y)), .d c] st' = .ok (.d (.tuple [.int x, .int y, c])) st' := fun c st' => rfl
            have t2 : ∀ a b st', tupW [.d a, .d b] st' = .ok (.d (.tuple [a, b])) st' := fun a b st' => rfl
            have tk2 := tk ((w, n) :: l)
            have re : outD (.ok ((x, y, (w, n) :: l), k)) = .tuple [.tuple [.int x, .int y, .tuple (((w, n) :: l).map legD)], .int (k : Int)] := rfl
            rw [nx_seq, re]
            generalize SF st ((w, n) :: l) = SE at *
            generalize ((w, n) :: l).map legD = LL at *
            generalize eCall m__law_number (aCons (eOp2 ixD (eVar 0) (eK (.int 0))) aNil) = N0 at *
            generalize eCall m__law_number (aCons (eOp2 ixD (eVar 0) (eK (.int 1))) aNil) = N1 at *
            generalize eVar 2 = V2 at *
            generalize eVar 3 = V3 at *
            generalize EF ws st.length k = E at *
            generalize encI (some x) = EX at *
            generalize encI (some y) = EY at *
            simp -implicitDefEqProofs [n0, n1, v2, v3, lk, t3, t2, tk2]
end
end
section
variable [Tbl] [FnA]
open PySem.W (Datum DatumOrd)
/-! ## the law's look at a path -/
theorem ways_pos {w : Str} (h : w ∈ waysL) : ∃ i : Nat, postS w waysL = some i ∧ i < 4 ∧ flatS w = decide (i % 2 = 0) ∧ wayB w = true := by
  simp only [waysL, List.mem_cons, List.not_mem_nil, or_false] at h
  rcases h with rfl | rfl | rfl | rfl
  · exact ⟨0, by decide +kernel, by decide, by decide +kernel, by decide +kernel⟩
  · exact ⟨1, by decide +kernel, by decide, by decide +kernel, by decide +kernel⟩
  · exact ⟨2, by decide +kernel, by decide, by decide +kernel, by decide +kernel⟩
  · exact ⟨3, by decide +kernel, by decide, by decide +kernel, by decide +kernel⟩
theorem ixt_ways {w : Str} {i : Nat} (h : postS w waysL = some i) : ixtS (.list (waysL.map .str)) [.str w] = some (.int (i : Int)) := by
  show (match strsOf (waysL.map .str) with
    | some bs => (postS w bs).map fun j => PyData.int (j : Nat)
    | none => none) = _
  rw [strsOf_map]
  show (postS w waysL).map _ = _
  rw [h]; rfl
theorem path_iff (p : Pth) (hw : ∀ l ∈ p.2.2, l.1 ∈ waysL) : isPath (pthD p) = true ↔ (-1000 ≤ p.1 ∧ p.1 ≤ 1000) ∧ (-1000 ≤ p.2.1 ∧ p.2.1 ≤ 1000) ∧ 1 ≤ p.2.2.length ∧ p.2.2.length ≤ 6 ∧ (∀ l ∈ p.2.2, 1 ≤ l.2 ∧ l.2 ≤ 60) ∧ (pairsOf (p.2.2.map legD)).all turnB = true := by
  unfold pthD PV.isPath
  simp only [isFT, Bool.and_eq_true, decide_eq_true_eq, List.length_map]
  have e : (p.2.2.map legD).all isLeg = true ↔ ∀ l ∈ p.2.2, 1 ≤ l.2 ∧ l.2 ≤ 60 := by
    rw [List.all_eq_true]
    constructor
    · intro h l hl
      have := h (legD l) (List.mem_map_of_mem hl)
      simp only [legD, isLeg, isFT, Bool.and_eq_true, decide_eq_true_eq] at this
      exact this.2
    · intro h d hd
      obtain ⟨l, hl, rfl⟩ := List.mem_map.mp hd
      obtain ⟨_, _, _, _, wb⟩ := ways_pos (hw l hl)
      simp only [legD, isLeg, isFT, Bool.and_eq_true, decide_eq_true_eq]
      exact ⟨wb, h l hl⟩
  rw [e]
theorem neI_nil (ns : List Int) : neD (.list (ns.map .int)) (.list []) = some (.bool (!decide (ns = []))) := q_ne ns []
theorem r_law_is_path {p : Pth} (h1 : 1 ≤ p.2.2.length) (hn : p.2.2.length ≤ 1000000) (hw : ∀ l ∈ p.2.2, l.1 ∈ waysL) (st : Sto) : m__law_is_path [.d (pthD p)] st = .ok (.d (.bool (isPath (pthD p)))) st := by
  have pi := path_iff p hw
  have x0 : ixD (pthD p) (.int 0) = some (.int p.1) := rfl
  have x1 : ixD (pthD p) (.int 1) = some (.int p.2.1) := rfl
  have x2 : ixD (pthD p) (.int 2) = some (.tuple (p.2.2.map legD)) := rfl
  have lw : ∀ st, lstW [.d (.str "east"), .d (.str "north"), .d (.str "west"), .d (.str "south")] st = .ok (.d (.list (waysL.map .str))) st := fun st => rfl
  have lw0 : ∀ st, lstW [] st = .ok (.d (.list [])) st := fun st => rfl
  obtain ⟨M, hM⟩ : ∃ M, M = if p.2.1 > p.1 then p.2.1 else p.1 := ⟨_, rfl⟩
  obtain ⟨m, hm⟩ : ∃ m, m = if p.2.1 < p.1 then p.2.1 else p.1 := ⟨_, rfl⟩
  have eM : max2F [.int p.1, .int p.2.1] = some (.int M) := by rw [o_max2, hM]
  have em : min2F [.int p.1, .int p.2.1] = some (.int m) := by rw [o_min2, hm]
  have bM : 1000 < M ↔ 1000 < p.1 ∨ 1000 < p.2.1 := by rw [hM]; split <;> omega
  have bm : m < -1000 ↔ p.1 < -1000 ∨ p.2.1 < -1000 := by rw [hm]; split <;> omega
  clear hM hm
  have ln : lenF [.tuple (p.2.2.map legD)] = some (.int (p.2.2.length : Int)) := by simp
  have fil := lcL_filterE (g := gTp (gCn (gN 3) (gCn (gN 4) gNl))) (t := tNot1 (tBl (eChain leD leD (eK (.int 1)) (eVar 4) (eK (.int 60))))) (c := eVar 4) (env := [some (.d (pthD p)), some (.d (.list (waysL.map .str))), none, none, none, none, none]) (st := st) legD (fun l => .int l.2) (fun l => !decide (1 ≤ l.2 ∧ l.2 ≤ 60)) p.2.2 [] fun l _ => by
    refine ⟨_, rfl, ?_, fun _ => rfl⟩
    by_cases q1 : 1 ≤ l.2
    · by_cases q2 : l.2 ≤ 60
      · simp [q1, q2]
      · simp [q1, q2]
    · simp [q1]
  rw [List.nil_append] at fil
  have nn := neI_nil ((p.2.2.filter fun l => !decide (1 ≤ l.2 ∧ l.2 ≤ 60)).map (·.2))
  rw [List.map_map] at nn
  have nb : decide ((p.2.2.filter fun l => !decide (1 ≤ l.2 ∧ l.2 ≤ 60)).map (·.2) = []) = decide (∀ l ∈ p.2.2, 1 ≤ l.2 ∧ l.2 ≤ 60) := by
    rw [decide_eq_decide, List.map_eq_nil_iff, List.filter_eq_nil_iff]
    constructor
    · intro h l hl
      have := h l hl
      simpa using this
    · intro h l hl
      have := h l hl
      simpa using this
  rw [nb] at nn
  have nn : neD (.list ((p.2.2.filter fun l => !decide (1 ≤ l.2 ∧ l.2 ≤ 60)).map fun l => PyData.int l.2)) (.list []) = some (.bool (!decide (∀ l ∈ p.2.2, 1 ≤ l.2 ∧ l.2 ≤ 60))) := nn
  have sd : ∀ xs st, srcW (.d (.tuple xs)) st = .ok ⟨xs, []⟩ st := fun xs st => rfl
  have prs := lcL_map (g := gTp (gCn (gN 5) (gCn (gN 6) gNl))) (c := eOp2 eqD (eOp2 modD (eOp2 addD (eMd ixtS (eVar 1) (aCons (eOp2 ixD (eVar 5) (eK (.int 0))) aNil)) (eMd ixtS (eVar 1) (aCons (eOp2 ixD (eVar 6) (eK (.int 0))) aNil))) (eK (.int 2))) (eK (.int 1))) (env := [some (.d (pthD p)), some (.d (.list (waysL.map .str))), none, none, none, none, none]) (st := st) (f := fun x => .bool (turnB x)) (pairsOf (p.2.2.map legD)) [] fun x hx => by
    obtain ⟨a, b, ha, hb, rfl⟩ := pairs_mem hx
    obtain ⟨u, hu, rfl⟩ := List.mem_map.mp ha
    obtain ⟨v, hv, rfl⟩ := List.mem_map.mp hb
    obtain ⟨i, pi', hi, fi, _⟩ := ways_pos (hw u hu)
    obtain ⟨j, pj, hj, fj, _⟩ := ways_pos (hw v hv)
    have ii := ixt_ways pi'
    have jj := ixt_ways pj
    have tb : turnB (pairD (legD u) (legD v)) = decide (((i : Int) + j) % 2 = 1) := by
      show (flatS u.1 != flatS v.1) = _
      rw [fi, fj, Bool.eq_iff_iff, bne_iff_ne, ne_eq, decide_eq_decide, decide_eq_true_iff]
      omega
    refine ⟨_, rfl, ?_⟩
    have u0 : ixD (legD u) (.int 0) = some (.str u.1) := rfl
    have v0 : ixD (legD v) (.int 0) = some (.str v.1) := rfl
    have eq : eqD (.int (((i : Int) + j) % 2)) (.int 1) = some (.bool (decide (((i : Int) + j) % 2 = 1))) := by
      rw [o_eq_i]
      congr 2
    rw [tb]
    show (eOp2 eqD _ (eK (.int 1))) [some (.d (pthD p)), some (.d (.list (waysL.map .str))), none, none, none, some (.d (legD u)), some (.d (legD v))] st = _
    generalize waysL.map PyData.str = WY at *
    generalize legD u = U at *
    generalize legD v = V at *
    generalize decide (((i : Int) + j) % 2 = 1) = bb at *
    simp -implicitDefEqProofs [u0, v0, ii, jj, eq, -o_eq_i]
  rw [List.nil_append] at prs
  have e3 : cutD (p.2.2.map legD) (some 1) none = (p.2.2.map legD).drop 1 := cutD_drop _ 1
  have e4 : List.zipWith pairD (p.2.2.map legD) ((p.2.2.map legD).drop 1) = pairsOf (p.2.2.map legD) := rfl
  have l5 : (p.2.2.map legD).length ≤ 1000000 := by rw [List.length_map]; exact hn
  have l6 : ((p.2.2.map legD).drop 1).length ≤ 1000000 := by rw [List.length_drop]; omega
  have l7 : (pairsOf (p.2.2.map legD)).length ≤ 1000000 := by unfold pairsOf; rw [List.length_zipWith]; omega
  have z2 : ∀ st, zip2W [.d (.tuple (p.2.2.map legD)), .d (.tuple ((p.2.2.map legD).drop 1))] st = .ok ⟨pairsOf (p.2.2.map legD), []⟩ st := fun st => rfl
  have al := o_all' (pairsOf (p.2.2.map legD)) turnB
  obtain ⟨B, hB⟩ : ∃ B, B = isPath (pthD p) := ⟨_, rfl⟩
  rw [← hB] at pi ⊢
  have cF : (1000 < M ∨ m < -1000 ∨ 6 < (p.2.2.length : Int) ∨ ¬ ∀ l ∈ p.2.2, 1 ≤ l.2 ∧ l.2 ≤ 60) → B = false := fun h => by
    rw [Bool.eq_false_iff]
    intro q
    obtain ⟨a1, a2, a3, a4, a5, a6⟩ := pi.mp q
    rcases h with h | h | h | h
    · have := bM.mp h; omega
    · have := bm.mp h; omega
    · omega
    · exact h a5
  have cT : ¬ 1000 < M → ¬ m < -1000 → ¬ 6 < (p.2.2.length : Int) → (∀ l ∈ p.2.2, 1 ≤ l.2 ∧ l.2 ≤ 60) → B = (pairsOf (p.2.2.map legD)).all turnB := fun a b c d => by
    rw [bM] at a
    rw [bm] at b
    rw [Bool.eq_iff_iff, pi]
    exact ⟨fun q => q.2.2.2.2.2, fun q => ⟨by omega, by omega, h1, by omega, d, q⟩⟩
  clear pi bM bm hB
  by_cases c1 : 1000 < M
  · rw [cF (.inl c1)]
    clear fil nn prs z2 al cT cF
    generalize waysL.map PyData.str = WY at *
    generalize p.2.2.map legD = LD at *
    generalize pthD p = PD at *
    unfold m__law_is_path d__law_is_path
    simp -implicitDefEqProofs [x0, x1, x2, lw, eM, c1, -o_max2, -o_min2]
  · by_cases c2 : m < -1000
    · rw [cF (.inr (.inl c2))]
      clear fil nn prs z2 al cT cF
      generalize waysL.map PyData.str = WY at *
      generalize p.2.2.map legD = LD at *
      generalize pthD p = PD at *
      unfold m__law_is_path d__law_is_path
      simp -implicitDefEqProofs [x0, x1, x2, lw, eM, em, c1, c2, -o_max2, -o_min2]
    · by_cases c3 : 6 < (p.2.2.length : Int)
      · rw [cF (.inr (.inr (.inl c3)))]
        clear fil nn prs z2 al cT cF
        generalize (p.2.2.length : Int) = L at *
        generalize waysL.map PyData.str = WY at *
        generalize p.2.2.map legD = LD at *
        generalize pthD p = PD at *
        unfold m__law_is_path d__law_is_path
        simp -implicitDefEqProofs [x0, x1, x2, lw, eM, em, c1, c2, ln, c3, -o_max2, -o_min2, -o_len_t]
      · by_cases c4 : ∀ l ∈ p.2.2, 1 ≤ l.2 ∧ l.2 ≤ 60
        · rw [cT c1 c2 c3 c4]
          rw [decide_eq_true c4] at nn
          clear cT cF c4
          generalize (p.2.2.length : Int) = L at *
          generalize ((p.2.2.filter fun l => !decide (1 ≤ l.2 ∧ l.2 ≤ 60)).map fun l => PyData.int l.2) = FL at *
          generalize (pairsOf (p.2.2.map legD)).all turnB = RB at *
          generalize (pairsOf (p.2.2.map legD)).map (fun x => PyData.bool (turnB x)) = RL at *
          generalize pairsOf (p.2.2.map legD) = PO at *
          generalize (p.2.2.map legD).drop 1 = DR at *
          generalize waysL.map PyData.str = WY at *
          generalize p.2.2.map legD = LD at *
          generalize pthD p = PD at *
          unfold m__law_is_path d__law_is_path
          simp -implicitDefEqProofs [x0, x1, x2, lw, lw0, eM, em, c1, c2, ln, c3, sd, fil, nn, wipeE, l5, e3, l6, z2, prs, l7, al, -o_max2, -o_min2, -o_len_t]
        · rw [cF (.inr (.inr (.inr c4)))]
          rw [decide_eq_false c4] at nn
          clear cT cF c4 prs al z2
          generalize (p.2.2.length : Int) = L at *
          generalize ((p.2.2.filter fun l => !decide (1 ≤ l.2 ∧ l.2 ≤ 60)).map fun l => PyData.int l.2) = FL at *
          generalize waysL.map PyData.str = WY at *
          generalize p.2.2.map legD = LD at *
          generalize pthD p = PD at *
          unfold m__law_is_path d__law_is_path
          simp -implicitDefEqProofs [x0, x1, x2, lw, lw0, eM, em, c1, c2, ln, c3, sd, fil, nn, wipeE, l5, -o_max2, -o_min2, -o_len_t]
end
section
variable [Tbl] [FnA]
open PySem.W (Datum DatumOrd)
/-! ## what is due -/
theorem legs_ways {ws : List Str} : ∀ (f h : Nat) (l : List (Str × Int)) (k : Nat), rdLegs ws f h = .ok (l, k) → (∀ x ∈ l, x.1 ∈ waysL) ∧ l.length ≤ f ∧ k ≤ max h ws.length
  | 0, h, l, k, e => by cases e; exact ⟨fun x hx => absurd hx List.not_mem_nil, Nat.le_refl _, Nat.le_max_left _ _⟩
  | f + 1, h, l, k, e => by
    rw [rd_succ] at e
    cases hy : wayAt waysL ws h with
    | none =>
      rw [hy] at e
      cases e
      exact ⟨fun x hx => absurd hx List.not_mem_nil, Nat.zero_le _, Nat.le_max_left _ _⟩
    | some w =>
      rw [hy] at e
      dsimp only at e
      cases hn : numAt ws (h + 1) with
      | none => rw [hn] at e; cases e
      | some n =>
        rw [hn] at e
        dsimp only at e
        cases hr : rdLegs ws f (h + 2) with
        | error e' => rw [hr] at e; cases e
        | ok p =>
          obtain ⟨m, k'⟩ := p
          rw [hr] at e
          cases e
          obtain ⟨i1, i2, i3⟩ := legs_ways f (h + 2) m _ hr
          have hl := num_lt hn
          have hwm : w ∈ waysL := by
            unfold wayAt at hy
            split at hy
            · rename_i z; cases hy; exact z.2
            · cases hy
          refine ⟨fun x hx => ?_, by rw [List.length_cons]; omega, by omega⟩
          rcases List.mem_cons.mp hx with rfl | q
          · exact hwm
          · exact i1 x q
theorem path_ways {ws : List Str} {p : Pth} {k : Nat} (e : rdPath ws = .ok (p, k)) : 1 ≤ p.2.2.length ∧ p.2.2.length ≤ 100001 ∧ (∀ l ∈ p.2.2, l.1 ∈ waysL) ∧ k ≤ ws.length := by
  unfold rdPath at e
  cases h0 : numAt ws 0 with
  | none => rw [h0] at e; cases e
  | some x =>
    cases h1 : numAt ws 1 with
    | none => rw [h0, h1] at e; cases e
    | some y =>
      cases h2 : wayAt waysL ws 2 with
      | none => rw [h0, h1, h2] at e; cases e
      | some w =>
        cases h3 : numAt ws 3 with
        | none => rw [h0, h1, h2, h3] at e; cases e
        | some n =>
          rw [h0, h1, h2, h3] at e
          dsimp only at e
          cases hr : rdLegs ws 100000 4 with
          | error e' => rw [hr] at e; cases e
          | ok p' =>
            obtain ⟨m, k'⟩ := p'
            rw [hr] at e
            cases e
            obtain ⟨i1, i2, i3⟩ := legs_ways 100000 4 m _ hr
            have l3 := num_lt h3
            have hwm : w ∈ waysL := by
              unfold wayAt at h2
              split at h2
              · rename_i z; cases h2; exact z.2
              · cases h2
            refine ⟨by simp, by rw [List.length_cons]; omega, fun x hx => ?_, by omega⟩
            rcases List.mem_cons.mp hx with rfl | q
            · exact hwm
            · exact i1 x q
def prD : Except Nat Pth → PyData
  | .ok p => pthD p
  | .error e => txE e
theorem pth_plain (p : Pth) : (pthD p).plain = true := by
  have h := PySem.W.plainAll_map p.2.2
  have h : PyData.plainAll (p.2.2.map legD) = true := h
  unfold pthD
  simp [PyData.plain, PyData.plainAll, h]
theorem eq_text (p : Pth) : eqD (pthD p) (.str "text") = some (.bool false) := by
  unfold eqD cmpOk
  rw [pth_plain, if_pos]
  · rfl
  · simp [PyData.plain, PyData.depth]
theorem r_law_due {t : Str} (ht : t.length ≤ 1000000) (hw : ∀ w ∈ Txt.split t " ", w.length ≤ 1000000) (hn : (Txt.split t " ").length ≤ 100000) (st : Sto) : m__law_due [.d (.str t)] st = .ok (.d (prD (prT t))) st := by
  have sp : splD (.str t) (.str " ") = some (.list ((Txt.split t " ").map .str)) := if_pos ⟨by decide +kernel, ht⟩
  have pf := fun st => r_law_path_form hw hn st
  have ln : lenF [.list ((Txt.split t " ").map PyData.str)] = some (.int ((Txt.split t " ").length : Int)) := by simp
  have t2 : ∀ a b st, tupW [.d a, .d b] st = .ok (.d (.tuple [a, b])) st := fun a b st => rfl
  unfold prT
  cases hr : rdPath (Txt.split t " ") with
  | error e =>
    rw [hr] at pf
    have pf : ∀ st, m__law_path_form [.d (.list ((Txt.split t " ").map .str))] st = .ok (.d (.tuple [.str "text", .int (e : Int)])) st := pf
    have et : eqD (.str "text") (.str "text") = some (.bool true) := by rw [o_eq_s, beq_self_eq_true]
    show _ = Rs.ok (Wv.d (.tuple [.str "text", .int (e : Int)])) st
    generalize (Txt.split t " ").map PyData.str = WS at *
    generalize (e : Int) = E at *
    unfold m__law_due d__law_due
    simp -implicitDefEqProofs [sp, pf, et, t2, -o_eq_s]
  | ok z =>
    obtain ⟨p, k⟩ := z
    obtain ⟨h1, h2, h3, h4⟩ := path_ways hr
    rw [hr] at pf
    have pf : ∀ st, m__law_path_form [.d (.list ((Txt.split t " ").map .str))] st = .ok (.d (.tuple [pthD p, .int (k : Int)])) st := pf
    have et := eq_text p
    have ip := fun st => r_law_is_path h1 (by omega) h3 st
    dsimp only
    by_cases q : k = (Txt.split t " ").length
    · have d : ¬ (k : Int) < ((Txt.split t " ").length : Int) := by omega
      generalize ((Txt.split t " ").length : Int) = L at *
      cases hB : isPath (pthD p) with
      | true =>
        rw [if_pos ⟨q, rfl⟩]
        rw [hB] at ip
        show _ = Rs.ok (Wv.d (pthD p)) st
        generalize (Txt.split t " ").map PyData.str = WS at *
        generalize (k : Int) = K at *
        generalize pthD p = PD at *
        unfold m__law_due d__law_due
        simp -implicitDefEqProofs [sp, pf, et, t2, ln, d, ip, -o_len_l]
      | false =>
        rw [if_neg fun z => Bool.false_ne_true z.2]
        rw [hB] at ip
        show _ = Rs.ok (Wv.d (.tuple [.str "text", .int (k : Int)])) st
        generalize (Txt.split t " ").map PyData.str = WS at *
        generalize (k : Int) = K at *
        generalize pthD p = PD at *
        unfold m__law_due d__law_due
        simp -implicitDefEqProofs [sp, pf, et, t2, ln, d, ip, -o_len_l]
    · have d : (k : Int) < ((Txt.split t " ").length : Int) := by omega
      rw [if_neg fun z => q z.1]
      show _ = Rs.ok (Wv.d (.tuple [.str "text", .int (k : Int)])) st
      generalize ((Txt.split t " ").length : Int) = L at *
      generalize (Txt.split t " ").map PyData.str = WS at *
      generalize (k : Int) = K at *
      generalize pthD p = PD at *
      unfold m__law_due d__law_due
      simp -implicitDefEqProofs [sp, pf, et, t2, ln, d, -o_len_l]
/-! ## things that are no texts -/
def notx : Xc := ⟨"NoText", [("word", .int (-1))]⟩
theorem r_law_dueX {d : PyData} (hd : isaD "str" d = some (.bool false)) (st : Sto) : m__law_due [.d d] st = .ok (.d (.tuple [.str "text", .int (-1)])) st := by
  have t2 : ∀ a b st, tupW [.d a, .d b] st = .ok (.d (.tuple [a, b])) st := fun a b st => rfl
  unfold m__law_due d__law_due
  simp -implicitDefEqProofs [hd, t2]
theorem r_path_readX {d : PyData} (hd : isaD "str" d = some (.bool false)) (st : Sto) : m_path_read [.d d] st = .ex notx st := by
  have e1 : m_Words___init__ [.r st.length, .d d] (st ++ [Ob.ins (FnA.a "Words") []]) = .ex notx (st ++ [Ob.ins (FnA.a "Words") []]) := by
    unfold m_Words___init__ d_Words___init__
    have tk : (st ++ [Ob.ins (FnA.a "Words") []]).take (st.length + 1) = st ++ [Ob.ins (FnA.a "Words") []] := by rw [List.take_of_length_le]; simp
    simp -implicitDefEqProofs [hd, raiseW, notx, tk]
  have mk : makeW (FnA.a "Words") m_Words___init__ [.d d] st = .ex notx (st ++ [Ob.ins (FnA.a "Words") []]) := by
    unfold makeW
    rw [e1]; rfl
  have tk : (st ++ [Ob.ins (FnA.a "Words") []]).take st.length = st := take_mid _ _
  generalize st ++ [Ob.ins (FnA.a "Words") []] = S1 at *
  unfold m_path_read d_path_read
  simp -implicitDefEqProofs [mk, tk]
end
section
variable [Tbl] [FnA]
/-! ## numbers and words shown and read back -/
def sgnI (i : Int) : List Nat := if 0 ≤ i then TL.numL i.toNat else 45 :: TL.numL i.natAbs
theorem tl_shI (i : Int) : TL.tl (shI i) = sgnI i := by
  unfold shI sgnI
  cases i with
  | ofNat n => rw [if_pos (show (0 : Int) ≤ Int.ofNat n from Int.natCast_nonneg n)]; exact TL.tl_num n
  | negSucc n =>
    rw [if_neg (by omega)]
    have h := TL.tl_num (n + 1)
    rw [TL.tl_ofString] at h ⊢
    have h2 : toString (Int.negSucc n) = "-" ++ toString (((n + 1 : Nat)) : Int) := rfl
    rw [h2, String.toList_append, List.map_append, h]
    rfl
theorem tl_len (z : Str) : (TL.tl z).length = z.length := Array.length_toList
theorem sgnI_len {i : Int} (h : i.natAbs < 10 ^ 30) : 1 ≤ (sgnI i).length ∧ (sgnI i).length ≤ 31 := by
  have l1 := fun n (hn : n < 10 ^ 30) => TL.numL_len (n := n) (k := 30) (by decide) hn
  have l2 := fun n => List.length_pos_iff.mpr (TL.numL_ne n)
  unfold sgnI
  split
  · have := l1 i.toNat (by omega)
    have := l2 i.toNat
    omega
  · have := l1 i.natAbs h
    have := l2 i.natAbs
    rw [List.length_cons]
    omega
theorem sgnI_free {i : Int} {s : Nat} (h : s < 45 ∨ 57 < s ∨ s = 46 ∨ s = 47) : s ∉ sgnI i := by
  unfold sgnI
  split
  · exact TL.numL_free (by omega)
  · intro hm
    rcases List.mem_cons.mp hm with q | q
    · omega
    · exact TL.numL_free (s := s) (by omega) q
theorem numL_0 {n : Nat} (h : (TL.numL n).head? = some 48) : n = 0 := by
  induction n using Nat.strongRecOn with
  | ind n ih =>
    by_cases hn : n < 10
    · rw [TL.numL_lt hn] at h
      simp at h
      exact h
    · rw [TL.numL_step (by omega)] at h
      have ne := TL.numL_ne (n / 10)
      obtain ⟨c, r, e⟩ := List.exists_cons_of_ne_nil ne
      rw [e] at h
      have := ih (n / 10) (by omega) (by rw [e]; exact h)
      omega
theorem bare_nat {w : Str} {n : Nat} (h : TL.tl w = TL.numL n) : bareS w = w := by
  refine if_neg fun z => ?_
  have := cutS_list w none (some ((1 : Nat) : Int))
  rw [cutD_take] at this
  have e : (cutS w none (some ((1 : Nat) : Int))).cps.toList = [45] := by
    rw [show (some ((1 : Nat) : Int)) = some 1 from rfl, z]
    decide +kernel
  rw [this] at e
  have h : w.cps.toList = TL.numL n := h
  rw [h] at e
  have m : 45 ∈ TL.numL n := List.mem_of_mem_take (by rw [e]; simp : 45 ∈ (TL.numL n).take 1)
  exact TL.numL_free (s := 45) (by decide) m
theorem bare_neg {w : Str} {n : Nat} (h : TL.tl w = 45 :: TL.numL n) : TL.tl (bareS w) = TL.numL n := by
  have h : w.cps.toList = 45 :: TL.numL n := h
  have e : cutS w none (some 1) = "-" := by
    apply TL.ext_tl
    have := cutS_list w none (some ((1 : Nat) : Int))
    rw [cutD_take, h] at this
    show (cutS w none (some 1)).cps.toList = _
    rw [show (some (1 : Int)) = some ((1 : Nat) : Int) from rfl, this, show TL.tl ("-" : Str) = [45] from by decide +kernel]
    rfl
  rw [show bareS w = cutS w (some 1) none from if_pos e]
  have := cutS_list w (some ((1 : Nat) : Int)) none
  rw [cutD_drop, h] at this
  exact this
theorem numI_shI {i : Int} (h : i.natAbs < 10 ^ 30) : numI (shI i) = some i := by
  have ht := tl_shI i
  have l1 := fun n (hn : n < 10 ^ 30) => TL.numL_len (n := n) (k := 30) (by decide) hn
  have l2 := fun n => List.length_pos_iff.mpr (TL.numL_ne n)
  have z0 : TL.tl ("0" : Str) = [48] := by decide +kernel
  unfold sgnI at ht
  by_cases hi : 0 ≤ i
  · rw [if_pos hi] at ht
    have hb := bare_nat ht
    have lb := tl_len (shI i)
    rw [ht] at lb
    have dg : digB (shI i) = true := by
      unfold digB
      rw [show (shI i).cps.toList = TL.numL i.toNat from ht, List.all_eq_true]
      exact fun c hc => decide_eq_true (TL.numL_digits _ c hc)
    have na : nauB (shI i) = false := by
      unfold nauB
      rw [hb]
      by_cases q : (shI i).cps.toList.head? = some 48
      · have : i.toNat = 0 := numL_0 (by rw [← ht]; exact q)
        have e : shI i = "0" := TL.ext_tl (by rw [ht, this, z0]; decide +kernel)
        rw [e]; simp
      · rw [decide_eq_false q]; rfl
    unfold numI
    rw [hb, if_pos ⟨by rw [← lb]; exact l2 _, by rw [← lb]; exact l1 _ (by omega), dg, na⟩]
    have it := TL.int_num (n := i.toNat) (by have := l1 i.toNat (by omega); omega)
    rw [show ((i.toNat : Nat) : Int) = i by omega] at it
    exact it
  · rw [if_neg hi] at ht
    have hb := bare_neg ht
    have lb := tl_len (bareS (shI i))
    rw [hb] at lb
    have dg : digB (bareS (shI i)) = true := by
      unfold digB
      rw [show (bareS (shI i)).cps.toList = TL.numL i.natAbs from hb, List.all_eq_true]
      exact fun c hc => decide_eq_true (TL.numL_digits _ c hc)
    have na : nauB (shI i) = false := by
      unfold nauB
      by_cases q : (bareS (shI i)).cps.toList.head? = some 48
      · have : i.natAbs = 0 := numL_0 (by rw [← hb]; exact q)
        omega
      · rw [decide_eq_false q]; rfl
    unfold numI
    rw [if_pos ⟨by rw [← lb]; exact l2 _, by rw [← lb]; exact l1 _ (by omega), dg, na⟩]
    have it := PySem.intText_neg (x := shI i) (cs := TL.numL i.natAbs) ht (TL.numL_digits _) (TL.numL_ne _) (by have := tl_len (shI i); rw [ht, List.length_cons] at this; have := l1 i.natAbs h; omega)
    rw [TL.numL_val] at it
    rw [it]
    congr 1
    omega
theorem way_free {w : Str} (h : w ∈ waysL) : 32 ∉ TL.tl w ∧ w.length ≤ 5 := by
  simp only [waysL, List.mem_cons, List.not_mem_nil, or_false] at h
  rcases h with rfl | rfl | rfl | rfl <;> exact ⟨by decide +kernel, by decide +kernel⟩
/-- good paths: places and longs of some thirty figures -/
structure PthOk (p : Pth) : Prop where
  x : p.1.natAbs < 10 ^ 30
  y : p.2.1.natAbs < 10 ^ 30
  n : 1 ≤ p.2.2.length ∧ p.2.2.length ≤ 1000
  w : ∀ l ∈ p.2.2, l.1 ∈ waysL ∧ l.2.natAbs < 10 ^ 30
theorem pthW_mem {p : Pth} (h : PthOk p) {w : Str} (hw : w ∈ pthW p) : 32 ∉ TL.tl w ∧ w.length ≤ 31 := by
  have hs : ∀ i : Int, i.natAbs < 10 ^ 30 → 32 ∉ TL.tl (shI i) ∧ (shI i).length ≤ 31 := fun i hi => by
    rw [← tl_len, tl_shI]
    exact ⟨sgnI_free (by decide), (sgnI_len hi).2⟩
  unfold pthW at hw
  rcases List.mem_append.mp hw with q | q
  · simp at q
    rcases q with rfl | rfl
    · exact hs _ h.x
    · exact hs _ h.y
  · obtain ⟨l, hl, q⟩ := List.mem_flatMap.mp q
    obtain ⟨h1, h2⟩ := h.w l hl
    unfold legW at q
    simp at q
    rcases q with rfl | rfl
    · have := way_free h1
      exact ⟨this.1, by omega⟩
    · exact hs _ h2
theorem pthW_len (p : Pth) : (pthW p).length = 2 + 2 * p.2.2.length := by
  unfold pthW
  rw [List.length_append, show p.2.2.flatMap legW = (p.2.2.map legW).flatten from List.flatMap_def .., List.length_flatten, List.map_map]
  have : ∀ ls : List (Str × Int), (ls.map (List.length ∘ legW)).sum = 2 * ls.length := fun ls => by
    induction ls with
    | nil => rfl
    | cons l ls ih => rw [List.map_cons, List.sum_cons, ih, List.length_cons]; show 2 + _ = _; omega
  rw [this]; rfl
theorem blank_tl : TL.tl (" " : Str) = [32] := by decide +kernel
theorem split_words {ws : List Str} (hne : ws ≠ []) (h : ∀ w ∈ ws, 32 ∉ TL.tl w) : Txt.split (Txt.join " " ws) " " = ws := TL.split_join (s := 32) (S := []) blank_tl (by decide +kernel) hne h
theorem getD_mid {α : Type} (a : List α) (x : α) (b : List α) (d : α) : (a ++ x :: b).getD a.length d = x := by
  rw [List.getD_eq_getElem?_getD, List.getElem?_append_right (Nat.le_refl _)]; simp
theorem rd_back : ∀ (ls : List (Str × Int)) (pre : List Str) (f : Nat), (∀ l ∈ ls, l.1 ∈ waysL ∧ l.2.natAbs < 10 ^ 30) → ls.length < f → rdLegs (pre ++ ls.flatMap legW) f pre.length = .ok (ls, (pre ++ ls.flatMap legW).length)
  | [], pre, f, _, hf => by
    obtain ⟨f, rfl⟩ : ∃ g, f = g + 1 := ⟨f - 1, by simp at hf; omega⟩
    rw [rd_succ, show wayAt waysL (pre ++ [].flatMap legW) pre.length = none from if_neg fun z => by simp at z]
    simp
  | l :: ls, pre, f, hb, hf => by
    obtain ⟨f, rfl⟩ : ∃ g, f = g + 1 := ⟨f - 1, by simp at hf; omega⟩
    have ih := rd_back ls (pre ++ legW l) f (fun x hx => hb x (List.mem_cons_of_mem _ hx)) (by simp at hf; omega)
    obtain ⟨b1, b2⟩ := hb l (by simp)
    have e : pre ++ (l :: ls).flatMap legW = pre ++ l.1 :: (shI l.2 :: ls.flatMap legW) := rfl
    have e2 : pre ++ (l :: ls).flatMap legW = (pre ++ [l.1]) ++ shI l.2 :: ls.flatMap legW := by rw [List.append_assoc]; rfl
    have e3 : pre ++ (l :: ls).flatMap legW = (pre ++ legW l) ++ ls.flatMap legW := by rw [List.append_assoc]; rfl
    have hlen : (pre ++ (l :: ls).flatMap legW).length = pre.length + 2 + (ls.flatMap legW).length := by rw [e]; simp; omega
    have g1 : (pre ++ (l :: ls).flatMap legW).getD pre.length Str.empty = l.1 := by rw [e]; exact getD_mid _ _ _ _
    have g2 : (pre ++ (l :: ls).flatMap legW).getD (pre.length + 1) Str.empty = shI l.2 := by
      rw [e2]
      have := getD_mid (pre ++ [l.1]) (shI l.2) (ls.flatMap legW) Str.empty
      rwa [List.length_append, List.length_singleton] at this
    have w1 : wayAt waysL (pre ++ (l :: ls).flatMap legW) pre.length = some l.1 := by
      unfold wayAt
      rw [g1, if_pos ⟨by omega, b1⟩]
    have w2 : numAt (pre ++ (l :: ls).flatMap legW) (pre.length + 1) = some l.2 := by
      unfold numAt
      rw [g2, if_pos (by omega), numI_shI b2]
    rw [rd_succ, w1]
    dsimp only
    rw [w2]
    dsimp only
    rw [List.length_append, ← e3] at ih
    have ih : rdLegs (pre ++ (l :: ls).flatMap legW) f (pre.length + 2) = _ := ih
    rw [ih]
theorem path_back {p : Pth} (h : PthOk p) : rdPath (pthW p) = .ok (p, (pthW p).length) := by
  obtain ⟨x, y, ls⟩ := p
  obtain ⟨hx, hy, hn, hw⟩ := h
  dsimp only at hx hy hn hw
  cases ls with
  | nil => simp at hn
  | cons l ls =>
    obtain ⟨b1, b2⟩ := hw l (by simp)
    have e : pthW (x, y, l :: ls) = [shI x, shI y, l.1, shI l.2] ++ ls.flatMap legW := rfl
    have go := rd_back ls [shI x, shI y, l.1, shI l.2] 100000 (fun z hz => hw z (List.mem_cons_of_mem _ hz)) (by simp at hn; omega)
    rw [← e] at go
    have go : rdLegs (pthW (x, y, l :: ls)) 100000 4 = .ok (ls, (pthW (x, y, l :: ls)).length) := go
    have hlen : 4 ≤ (pthW (x, y, l :: ls)).length := by rw [e]; simp
    have n0 : numAt (pthW (x, y, l :: ls)) 0 = some x := by
      unfold numAt
      rw [if_pos (by omega)]
      exact numI_shI hx
    have n1 : numAt (pthW (x, y, l :: ls)) 1 = some y := by
      unfold numAt
      rw [if_pos (by omega)]
      exact numI_shI hy
    have n2 : wayAt waysL (pthW (x, y, l :: ls)) 2 = some l.1 := by
      unfold wayAt
      exact if_pos ⟨by omega, b1⟩
    have n3 : numAt (pthW (x, y, l :: ls)) 3 = some l.2 := by
      unfold numAt
      rw [if_pos (by omega)]
      exact numI_shI b2
    unfold rdPath
    rw [n0, n1]
    dsimp only
    rw [n2]
    dsimp only
    rw [n3]
    dsimp only
    rw [go]
theorem pr_back {p : Pth} (h : PthOk p) (hp : isPath (pthD p) = true) : prT (Txt.join " " (pthW p)) = .ok p := by
  have ne : pthW p ≠ [] := fun z => by have := pthW_len p; rw [z] at this; simp at this; omega
  unfold prT
  rw [split_words ne fun w hw => (pthW_mem h hw).1, path_back h]
  dsimp only
  rw [if_pos ⟨rfl, hp⟩]
end
section
variable [Tbl] [FnA]
/-! ## joined texts, their lengths -/
theorem joinL_len (S : List Nat) : ∀ ls : List (List Nat), (TL.joinL S ls).length ≤ (ls.map List.length).sum + ls.length * S.length
  | [] => by simp [TL.joinL]
  | [p] => by simp [TL.joinL]
  | p :: q :: r => by
    have := joinL_len S (q :: r)
    show (p ++ (S ++ TL.joinL S (q :: r))).length ≤ _
    rw [List.length_append, List.length_append, List.map_cons, List.sum_cons, List.length_cons, Nat.succ_mul]
    omega
theorem sumN_le {α : Type} {f : α → Nat} {L : Nat} : ∀ {xs : List α}, (∀ x ∈ xs, f x ≤ L) → (xs.map f).sum ≤ xs.length * L
  | [], _ => by simp
  | x :: xs, h => by
    have := sumN_le (f := f) (L := L) (xs := xs) fun z hz => h z (List.mem_cons_of_mem _ hz)
    have := h x (by simp)
    rw [List.map_cons, List.sum_cons, List.length_cons, Nat.succ_mul]
    omega
theorem join_len {ys : List Str} {L n : Nat} (h : ∀ y ∈ ys, y.length ≤ L) (hn : ys.length ≤ n) : (Txt.join " " ys).length ≤ n * (L + 1) ∧ (ys.map (·.length)).sum + ys.length * (" " : Str).length ≤ n * (L + 1) := by
  have s := sumN_le (f := fun y : Str => y.length) h
  have b1 : (" " : Str).length = 1 := by decide +kernel
  have m : ys.length * (L + 1) ≤ n * (L + 1) := Nat.mul_le_mul_right _ hn
  have e : ys.length * (L + 1) = ys.length * L + ys.length := by rw [Nat.mul_add, Nat.mul_one]
  refine ⟨?_, by rw [b1]; omega⟩
  rw [← tl_len, TL.join_eq, TL.tl_join, blank_tl]
  have j := joinL_len [32] (ys.map TL.tl)
  rw [List.length_map, List.map_map] at j
  have e2 : (ys.map (List.length ∘ TL.tl)) = ys.map (·.length) := List.map_congr_left fun y _ => tl_len y
  rw [e2] at j
  have : ([32] : List Nat).length = 1 := rfl
  rw [this] at j
  omega
theorem jn_ok {ys : List Str} {L n : Nat} (h : ∀ y ∈ ys, y.length ≤ L) (hn : ys.length ≤ n) (hL : n * (L + 1) ≤ 1000000) : jnD (.str " ") (.list (ys.map .str)) = some (.str (Txt.join " " ys)) := by
  show (match strsOf (ys.map .str) with
    | some (zs : List Str) => if (zs.map Str.length).sum + zs.length * (" " : Str).length ≤ 1000000 then some (PyData.str (Txt.join " " zs)) else none
    | none => none) = _
  rw [strsOf_map]
  exact if_pos (Nat.le_trans (join_len h hn).2 hL)
theorem joinL_cons (S p : List Nat) {r : List (List Nat)} (h : r ≠ []) : TL.joinL S (p :: r) = p ++ (S ++ TL.joinL S r) := by
  cases r with
  | nil => exact absurd rfl h
  | cons q r => rfl
theorem joinL_two (S : List Nat) : ∀ (a : List (List Nat)) (u v : List Nat) (b : List (List Nat)), TL.joinL S (a ++ (u ++ (S ++ v)) :: b) = TL.joinL S (a ++ u :: v :: b)
  | [], u, v, b => by
    cases b with
    | nil => show u ++ (S ++ v) = u ++ (S ++ v); rfl
    | cons z b =>
      show TL.joinL S ((u ++ (S ++ v)) :: z :: b) = TL.joinL S (u :: v :: z :: b)
      rw [joinL_cons _ _ (by simp), joinL_cons S u (by simp), joinL_cons S v (by simp)]
      simp [List.append_assoc]
  | p :: a, u, v, b => by
    have ih := joinL_two S a u v b
    show TL.joinL S (p :: (a ++ (u ++ (S ++ v)) :: b)) = TL.joinL S (p :: (a ++ u :: v :: b))
    rw [joinL_cons _ _ (by simp), joinL_cons _ _ (by simp), ih]
def legT (l : Str × Int) : Str := l.1 ++ " " ++ shI l.2
theorem legT_tl (l : Str × Int) : TL.tl (legT l) = TL.tl l.1 ++ ([32] ++ TL.tl (shI l.2)) := by
  unfold legT
  rw [TL.tl_append, TL.tl_append, blank_tl, List.append_assoc]
theorem joinL_legs : ∀ (ls : List (Str × Int)) (a : List (List Nat)), TL.joinL [32] (a ++ (ls.map legT).map TL.tl) = TL.joinL [32] (a ++ (ls.flatMap legW).map TL.tl)
  | [], a => rfl
  | l :: ls, a => by
    have ih := joinL_legs ls (a ++ [TL.tl l.1, TL.tl (shI l.2)])
    rw [List.append_assoc, List.append_assoc] at ih
    show TL.joinL [32] (a ++ TL.tl (legT l) :: (ls.map legT).map TL.tl) = TL.joinL [32] (a ++ TL.tl l.1 :: TL.tl (shI l.2) :: (ls.flatMap legW).map TL.tl)
    rw [legT_tl, joinL_two]
    exact ih
theorem join_legs (x y : Str) (ls : List (Str × Int)) : Txt.join " " ([x, y] ++ ls.map legT) = Txt.join " " ([x, y] ++ ls.flatMap legW) := by
  apply TL.ext_tl
  rw [TL.join_eq, TL.join_eq, TL.tl_join, TL.tl_join, blank_tl, List.map_append, List.map_append]
  exact joinL_legs ls _
theorem str_cat (a b : Str) : (a ++ b).length = a.length + b.length := by
  rw [← tl_len, TL.tl_append, List.length_append, tl_len, tl_len]
theorem r_path_text {p : Pth} (h : PthOk p) (hl : p.2.2.length ≤ 6) (st : Sto) : m__law_path_text [.d (pthD p)] st = .ok (.d (.str (Txt.join " " (pthW p)))) st := by
  have x0 : ixD (pthD p) (.int 0) = some (.int p.1) := rfl
  have x1 : ixD (pthD p) (.int 1) = some (.int p.2.1) := rfl
  have x2 : ixD (pthD p) (.int 2) = some (.tuple (p.2.2.map legD)) := rfl
  have pw : (10 : Nat) ^ 30 < 10 ^ 40 := by decide
  have s0 : strF [.int p.1] = some (.str (shI p.1)) := o_str (Nat.lt_trans h.x pw)
  have s1 : strF [.int p.2.1] = some (.str (shI p.2.1)) := o_str (Nat.lt_trans h.y pw)
  have lw : ∀ a b st, lstW [.d a, .d b] st = .ok (.d (.list [a, b])) st := fun a b st => rfl
  have sd : ∀ xs st, srcW (.d (.tuple xs)) st = .ok ⟨xs, []⟩ st := fun xs st => rfl
  have b1 : (" " : Str).length = 1 := by decide +kernel
  have hsl : ∀ i : Int, i.natAbs < 10 ^ 30 → (shI i).length ≤ 31 := fun i hi => by
    rw [← tl_len, tl_shI]; exact (sgnI_len hi).2
  have go := lcL_mapE (g := gTp (gCn (gN 2) (gCn (gN 3) gNl))) (c := eOp2 addD (eOp2 addD (eVar 2) (eK (.str " "))) (eOpN strF (aCons (eVar 3) aNil))) (env := [some (.d (pthD p)), none, none, none]) (st := st) legD (fun l => .str (legT l)) p.2.2 [] fun l hl => by
    obtain ⟨h1, h2⟩ := h.w l hl
    have w5 := (way_free h1).2
    have sl := hsl _ h2
    have a1 : addD (.str l.1) (.str " ") = some (.str (l.1 ++ " ")) := if_pos (by rw [b1]; omega)
    have a2 : addD (.str (l.1 ++ " ")) (.str (shI l.2)) = some (.str (legT l)) := if_pos (by rw [str_cat, b1]; omega)
    have s2 : strF [.int l.2] = some (.str (shI l.2)) := o_str (Nat.lt_trans h2 pw)
    refine ⟨[some (.d (pthD p)), none, some (.d (.str l.1)), some (.d (.int (l.2)))], rfl, ?_⟩
    generalize legT l = T at *
    generalize l.1 ++ (" " : Str) = U at *
    generalize shI l.2 = SI at *
    simp -implicitDefEqProofs [a1, a2, s2]
  rw [List.nil_append] at go
  have ad : addD (.list [.str (shI p.1), .str (shI p.2.1)]) (.list (p.2.2.map fun l => .str (legT l))) = some (.list (([shI p.1, shI p.2.1] ++ p.2.2.map legT).map .str)) := by
    rw [o_add_l, if_pos (by simp; omega), List.map_append, List.map_map]; rfl
  have jn := jn_ok (ys := [shI p.1, shI p.2.1] ++ p.2.2.map legT) (L := 40) (n := 8) (fun y hy => by
    rcases List.mem_append.mp hy with q | q
    · simp at q
      rcases q with rfl | rfl
      · have := hsl _ h.x; omega
      · have := hsl _ h.y; omega
    · obtain ⟨l, hl, rfl⟩ := List.mem_map.mp q
      obtain ⟨h1, h2⟩ := h.w l hl
      have := hsl _ h2
      have := (way_free h1).2
      unfold legT
      rw [str_cat, str_cat, b1]
      omega) (by simp; omega) (by decide)
  rw [join_legs] at jn
  replace jn : jnD (.str " ") (.list (([shI p.1, shI p.2.1] ++ p.2.2.map legT).map .str)) = some (.str (Txt.join " " (pthW p))) := jn
  generalize ([shI p.1, shI p.2.1] ++ p.2.2.map legT).map PyData.str = WS at *
  generalize (p.2.2.map fun l => PyData.str (legT l)) = LT at *
  have ll : (p.2.2.map legD).length ≤ 1000000 := by rw [List.length_map]; omega
  generalize p.2.2.map legD = LD at *
  generalize pthD p = PD at *
  generalize Txt.join " " (pthW p) = TX at *
  generalize shI p.1 = S0 at *
  generalize shI p.2.1 = S1 at *
  unfold m__law_path_text d__law_path_text
  simp -implicitDefEqProofs [x0, x1, x2, s0, s1, lw, sd, go, wipeE, ll, ad, jn, -o_add_l]
/-! ## a path drawn -/
def pOf (x y : Int) (lg : Lgs) : Pth := (x, y, lg.map fun l => (wayS l.1, l.2))
theorem pthD_of (x y : Int) (lg : Lgs) : pthD (pOf x y lg) = ptD x y lg := by
  unfold pthD pOf ptD
  rw [List.map_map]; rfl
theorem wayS_in (w : Nat) : wayS w ∈ waysL := by
  unfold wayS; split <;> decide +kernel
structure PthS (p : Pth) : Prop where
  ok : PthOk p
  is : isPath (pthD p) = true
  x : -1000 ≤ p.1 ∧ p.1 ≤ 1000
  y : -1000 ≤ p.2.1 ∧ p.2.1 ≤ 1000
  n : p.2.2.length ≤ 6
  l : ∀ l ∈ p.2.2, 1 ≤ l.2 ∧ l.2 ≤ 60
theorem pths {x y : Int} {lg : Lgs} (P : Pt x y lg) : PthS (pOf x y lg) where
  ok := ⟨by have := P.x; show x.natAbs < _; omega, by have := P.y; show y.natAbs < _; omega, by
    show 1 ≤ (lg.map _).length ∧ (lg.map _).length ≤ 1000
    rw [List.length_map]
    have := P.n; omega, fun l hl => by
    obtain ⟨q, hq, rfl⟩ := List.mem_map.mp hl
    have := P.ok q hq
    exact ⟨wayS_in _, by show q.2.natAbs < _; omega⟩⟩
  is := by rw [pthD_of]; exact P.isPath
  x := P.x
  y := P.y
  n := by show (lg.map _).length ≤ 6; rw [List.length_map]; exact P.n.2
  l := fun l hl => by
    obtain ⟨q, hq, rfl⟩ := List.mem_map.mp hl
    exact (P.ok q hq).2
theorem wy_lt {lg r : Lgs} {k : Nat} (h : k < lg.length) : wy (lg ++ r) k = wy lg k := by unfold wy; rw [List.getElem?_append_left h]
theorem wy_at {lg : Lgs} {p : Nat × Int} : wy (lg ++ [p]) lg.length = p.1 := by unfold wy; simp
def WYL : PyData := .list [.str "east", .str "north", .str "west", .str "south"]
def PathI (p n : Nat) (st : Sto) (k : Nat) (env : En) (st' : Sto) : Prop := ∃ (v : Nat) (lg : Lgs),
  env = [some (.r p), some (.d (.int (1))), some (.d WYL), some (.d (.int ((v : Int)))), some (.r n), none, none] ∧ v < 4 ∧
  st'[n]? = some (.lst (lg.map lgD)) ∧ lg.length = k ∧ (∀ l ∈ lg, l.1 < 4 ∧ 1 ≤ l.2 ∧ l.2 ≤ 60) ∧ (∀ j, j + 1 < k → tq lg j = 1 ∨ tq lg j = 3) ∧ (∀ j, j + 1 = k → (v + 4 - wy lg j) % 4 = 1 ∨ (v + 4 - wy lg j) % 4 = 3) ∧ Px p n st st'
theorem path_turn {p n : Nat} {st : Sto} (hp : p < n) {k : Nat} (hk : k < 6) {env : En} {st' : Sto} (x : PyData) (h : PathI p n st k env st') :
    ∃ env1 env2 st2, gN 5 (.d x) env = some env1 ∧ d__law_path_l1 env1 st' = .nx env2 st2 ∧ PathI p n st (k + 1) env2 st2 := by
  obtain ⟨v, lg, rfl, a, e, hl, ok, ch, nx, px⟩ := h
  have ew : ixD WYL (.int (v : Int)) = some (.str (wayS v)) := ways_at a
  obtain ⟨u1, st1, e1, a1, b1, c1⟩ := r_draw 60 px.pen (by decide) (by decide)
  have n1 : st1[n]? = some (.lst (lg.map lgD)) := by rw [c1.sm n (by omega)]; exact e
  have hn : n < st1.length := (List.getElem?_eq_some_iff.mp n1).1
  have el : lg.map lgD ++ [.tuple [.str (wayS v), .int (1 + u1)]] = (lg ++ [(v, 1 + u1)]).map lgD := by rw [List.map_append]; rfl
  have px1 := (px.pn c1).put (i := n) (Nat.le_refl _) hp (.lst ((lg ++ [(v, 1 + u1)]).map lgD))
  obtain ⟨u2, st2, e2, a2, b2, c2⟩ := r_draw 2 px1.pen (by decide) (by decide)
  have ap := appW_l n1 (by rw [List.length_map]; omega) (.tuple [.str (wayS v), .int (1 + u1)])
  rw [el] at ap
  obtain ⟨m, em, hm⟩ : ∃ m : Int, ixD (.list [.int 1, .int 3]) (.int u2) = some (.int m) ∧ (m = 1 ∨ m = 3) := by
    have : u2 = 0 ∨ u2 = 1 := by omega
    rcases this with rfl | rfl
    · exact ⟨1, rfl, .inl rfl⟩
    · exact ⟨3, rfl, .inr rfl⟩
  obtain ⟨q, hq⟩ : ∃ q : Nat, ((v : Int) + m) % 4 = (q : Int) := ⟨(((v : Int) + m) % 4).toNat, by omega⟩
  refine ⟨_, [some (.r p), some (.d (.int (1))), some (.d WYL), some (.d (.int ((q : Int)))), some (.r n), none, none], st2, rfl, ?_, ?_⟩
  · have il := isLst_l e
    have t2 : ∀ a b st, tupW [.d a, .d b] st = .ok (.d (.tuple [a, b])) st := fun a b st => rfl
    have lw : ∀ st, lstW [.d (.int 1), .d (.int 3)] st = .ok (.d (.list [.int 1, .int 3])) st := fun st => rfl
    have sb : subD (.int 61) (.int 1) = some (.int 60) := rfl
    have md : modD (.int ((v : Int) + m)) (.int 4) = some (.int (q : Int)) := by rw [o_mod_i, if_pos (by decide), hq]
    generalize (lg ++ [(v, 1 + u1)]).map lgD = F at *
    generalize WYL = WL at *
    generalize wayS v = WV at *
    clear hq
    generalize (v : Int) = vi at *
    generalize (q : Int) = qi at *
    generalize hTW : PyData.list [.int 1, .int 3] = TW at *
    unfold d__law_path_l1
    simp -implicitDefEqProofs [il, ew, sb, e1, t2, ap, lw, e2, em, md, wipeE, hTW, -o_mod_i]
  · refine ⟨q, lg ++ [(v, 1 + u1)], rfl, by omega, ?_, by simp [hl], ?_, fun j hj => ?_, fun j hj => ?_, px1.pn c2⟩
    · rw [c2.sm n (by omega)]
      exact List.getElem?_set_self hn
    · intro l hl
      rcases List.mem_append.mp hl with q | q
      · exact ok l q
      · rw [List.mem_singleton.mp q]
        exact ⟨a, by omega, by omega⟩
    · unfold tq
      by_cases q2 : j + 1 < k
      · rw [wy_lt (by omega), wy_lt (by omega)]
        exact ch j q2
      · have ej : j + 1 = lg.length := by omega
        rw [ej, wy_at, wy_lt (by omega)]
        exact nx j (by omega)
    · have ej : j = lg.length := by omega
      rw [ej, wy_at]
      show (q + 4 - v) % 4 = 1 ∨ (q + 4 - v) % 4 = 3
      omega
theorem r_path {p : Nat} {st : Sto} (h : Pen p st) : ∃ (P : Pth) (st' : Sto), m__law_path [.r p, (.d (.int (1)))] st = .ok (.d (pthD P)) st' ∧ PthS P ∧ Pn p st st' := by
  have hp := h.lt
  obtain ⟨v1, st1, e1, a1, b1, c1⟩ := r_draw 4 h (by decide) (by decide)
  obtain ⟨v1, rfl⟩ := Int.eq_ofNat_of_zero_le a1
  have px := c1.px.app [.lst []]
  obtain ⟨v2, st2, e2, a2, b2, c2⟩ := r_draw 6 px.pen (by decide) (by decide)
  have px2 := px.pn c2
  have n2 : st2[st.length]? = some (.lst []) := by
    rw [c2.sm _ (by omega), ← c1.len]
    exact get_mid st1 [] _
  obtain ⟨env, st4, e4, v, lg, rfl, _, el, hl, ok, ch, _, px4⟩ := forL_goI (g := gN 5) (b := d__law_path_l1) (PathI p st.length st) (rangeD 0 (1 + v2).toNat) 0 (fun i x hx env st' hI => by
    have := (rangeD_get hx).1
    rw [Nat.zero_add] at hI ⊢
    exact path_turn hp (by omega) x hI) [some (.r p), some (.d (.int (1))), some (.d WYL), some (.d (.int ((v1 : Int)))), some (.r st.length), none, none] st2
    ⟨v1, [], rfl, by omega, n2, rfl, fun l hl => absurd hl List.not_mem_nil, fun j hj => by omega, fun j hj => by omega, px2⟩
  obtain ⟨v5, st5, e5, a5, b5, c5⟩ := r_draw 2 px4.pen (by decide) (by decide)
  obtain ⟨F, hf, eF, dF⟩ : ∃ F : Int, (F = 9 ∨ F = 2001) ∧ ixD (.list [.int 9, .int 2001]) (.int v5) = some (.int F) ∧ divD (.int F) (.int 2) = some (.int (F / 2)) := by
    have : v5 = 0 ∨ v5 = 1 := by omega
    rcases this with rfl | rfl
    · exact ⟨9, .inl rfl, rfl, rfl⟩
    · exact ⟨2001, .inr rfl, rfl, rfl⟩
  obtain ⟨v6, st6, e6, a6, b6, c6⟩ := r_draw F c5.pen (by omega) (by omega)
  obtain ⟨v7, st7, e7, a7, b7, c7⟩ := r_draw F c6.pen (by omega) (by omega)
  have c57 := (c5.trans c6).trans c7
  have el7 : st7[st.length]? = some (.lst (lg.map lgD)) := by rw [c57.sm _ (by omega)]; exact el
  rw [rangeD_len, Nat.zero_add] at hl ch
  have P : Pt (v6 - F / 2) (v7 - F / 2) lg := ⟨by omega, by omega, by omega, ok, fun k hk => ch k (by omega)⟩
  refine ⟨pOf (v6 - F / 2) (v7 - F / 2) lg, st7.take st.length, ?_, pths P, (px4.pn c57).back hp⟩
  rw [pthD_of]
  have lw : ∀ st, lstW [.d (.str "east"), .d (.str "north"), .d (.str "west"), .d (.str "south")] st = .ok (.d WYL) st := fun st => rfl
  have lw2 : ∀ st, lstW [.d (.int 9), .d (.int 2001)] st = .ok (.d (.list [.int 9, .int 2001])) st := fun st => rfl
  have nw : newW [] st1 = .ok (.r st.length) (st1 ++ [.lst []]) := by
    show Rs.ok (Wv.r st1.length) _ = _
    rw [c1.len]
  have rg := rg1_ok (i := 1 + v2) st2 (by omega) (by omega)
  have lk := looks_l1 el7
  have t3 : ∀ a b c st, tupW [.d a, .d b, .d c] st = .ok (.d (.tuple [a, b, c])) st := fun a b c st => rfl
  have pe : ptD (v6 - F / 2) (v7 - F / 2) lg = .tuple [.int (v6 - F / 2), .int (v7 - F / 2), .tuple (lg.map lgD)] := rfl
  rw [pe]
  generalize hTW : PyData.list [.int 9, .int 2001] = TW at *
  generalize lg.map lgD = LG at *
  generalize F / 2 = F2 at *
  generalize (v1 : Int) = vi at *
  generalize WYL = WL at *
  unfold m__law_path d__law_path
  simp -implicitDefEqProofs [lw, e1, nw, e2, rg, e4, e5, lw2, eF, e6, dF, e7, lk, t3, hTW, -o_div_i, -forL_cons]
end
section
variable [Tbl] [FnA]
/-! ## a sign, a text with one thing otherwise -/
theorem ix_sgn {z : Str} {u : Int} (h0 : 0 ≤ u) (h1 : u < (z.length : Int)) (h2 : z.length ≤ 1000000) : ∃ c, ixD (.str z) (.int u) = some (sgnD c) := by
  have hl : z.cps.toList.length = z.length := Array.length_toList
  obtain ⟨c, _, e⟩ := atD_mem (xs := z.cps.toList) h0 (by rw [hl]; exact h1)
  refine ⟨c, ?_⟩
  show (if z.length ≤ 1000000 then (atD z.cps.toList u).map fun c => PyData.str ⟨#[c]⟩ else none) = _
  rw [if_pos h2, e]; rfl
theorem r_law_sign {p : Nat} {st : Sto} (h : Pen p st) : ∃ (z : Str) (st' : Sto), m__law_sign [.r p] st = .ok (.d (.str z)) st' ∧ z.length ≤ 1 ∧ Pn p st st' := by
  have hp := h.lt
  obtain ⟨Z, hZ⟩ : ∃ Z : Str, Z = " !\"#$&'()*+,-./0123456789:;<=>?@ABCDEFGHIJKLMNOPQRSTUVWXYZ[\\]^_`abcdefghijklmnopqrstuvwxyz{|}~\u0009\n" := ⟨_, rfl⟩
  have hl : 1 ≤ Z.length ∧ Z.length ≤ 200 := by rw [hZ]; decide +kernel
  obtain ⟨u, st1, e1, a1, b1, c1⟩ := r_draw (Z.length : Int) h (by omega) (by omega)
  obtain ⟨c, ix⟩ := ix_sgn a1 b1 (by omega)
  obtain ⟨v, st2, e2, a2, b2, c2⟩ := r_draw 8 c1.pen (by decide) (by decide)
  have ln : lenF [.str Z] = some (.int (Z.length : Int)) := if_pos (by omega)
  obtain ⟨d, hd, ed⟩ := atD_mem (xs := [PyData.str "\n", .str "\u0009", .str " ", .str "0", .str "-", .str "/", .str "+", sgnD c]) a2 (by simpa using b2)
  obtain ⟨z, rfl, hz⟩ : ∃ z : Str, d = .str z ∧ z.length ≤ 1 := by
    simp only [List.mem_cons, List.not_mem_nil, or_false] at hd
    rcases hd with rfl | rfl | rfl | rfl | rfl | rfl | rfl | rfl
    · exact ⟨_, rfl, by decide +kernel⟩
    · exact ⟨_, rfl, by decide +kernel⟩
    · exact ⟨_, rfl, by decide +kernel⟩
    · exact ⟨_, rfl, by decide +kernel⟩
    · exact ⟨_, rfl, by decide +kernel⟩
    · exact ⟨_, rfl, by decide +kernel⟩
    · exact ⟨_, rfl, by decide +kernel⟩
    · exact ⟨_, rfl, Nat.le_refl _⟩
  have lw : ∀ st, lstW [.d (.str "\n"), .d (.str "\u0009"), .d (.str " "), .d (.str "0"), .d (.str "-"), .d (.str "/"), .d (.str "+"), .d (sgnD c)] st = .ok (.d (.list [PyData.str "\n", .str "\u0009", .str " ", .str "0", .str "-", .str "/", .str "+", sgnD c])) st := fun st => rfl
  have c12 := c1.trans c2
  have tk : st2.take st.length = st2 := by rw [← c12.len, List.take_length]
  refine ⟨z, st2, ?_, hz, c12⟩
  replace ed : ixD (.list [PyData.str "\n", .str "\u0009", .str " ", .str "0", .str "-", .str "/", .str "+", sgnD c]) (.int v) = some (.str z) := ed
  generalize (PyData.list [PyData.str "\n", .str "\u0009", .str " ", .str "0", .str "-", .str "/", .str "+", sgnD c]) = DL at *
  generalize sgnD c = SG at *
  unfold m__law_sign d__law_sign
  rw [← hZ]
  generalize (Z.length : Int) = N at *
  simp -implicitDefEqProofs [ln, e1, ix, lw, e2, ed, tk]
def SX (S : Sto) (F : List Str) : Sto := S ++ [.lst (F.map .str)]
theorem sx_at (S : Sto) (F : List Str) : (SX S F)[S.length]? = some (.lst (F.map .str)) := get_mid S [] _
theorem sx_set (S : Sto) (F F' : List Str) : (SX S F).set S.length (.lst (F'.map .str)) = SX S F' := set_mid S [] _ _
structure WOk (X : List Str) : Prop where
  w : ∀ y ∈ X, y.length ≤ 120
  n : X.length ≤ 400
theorem WOk.jn {X : List Str} (h : WOk X) : jnD (.str " ") (.list (X.map .str)) = some (.str (Txt.join " " X)) := jn_ok h.w h.n (by decide)
theorem WOk.len {X : List Str} (h : WOk X) : (Txt.join " " X).length ≤ 50000 := Nat.le_trans (join_len h.w h.n).1 (by decide)
theorem bl1 {v0 v1 v2 v3 v4 v5 v6 v7 v8 v11 : Option Wv} {S : Sto} {F X : List Str} (hX : WOk X) (hF : F.length < 1000) : d__law_bent_l1 [v0, v1, v2, v3, v4, v5, v6, v7, v8, some (.r S.length), some (.d (.list (X.map .str))), v11] (SX S F) = .nx [v0, v1, v2, v3, v4, v5, v6, v7, v8, some (.r S.length), none, v11] (SX S (F ++ [Txt.join " " X])) := by
  have jn := hX.jn
  have il := isLst_l (sx_at S F)
  have ap := appW_l (sx_at S F) (by rw [List.length_map]; omega) (.str (Txt.join " " X))
  rw [show F.map PyData.str ++ [.str (Txt.join " " X)] = (F ++ [Txt.join " " X]).map .str by rw [List.map_append]; rfl, sx_set] at ap
  generalize SX S (F ++ [Txt.join " " X]) = S2 at *
  generalize SX S F = S1 at *
  generalize Txt.join " " X = J at *
  generalize X.map PyData.str = XS at *
  unfold d__law_bent_l1
  simp -implicitDefEqProofs [il, jn, ap, wipeE]
theorem loop3 {v0 v1 v2 v3 v4 v5 v6 v7 v8 v11 : Option Wv} {S : Sto} {F X Y Z : List Str} (hX : WOk X) (hY : WOk Y) (hZ : WOk Z) (hF : F.length < 900) : forL (gN 10) d__law_bent_l1 [] [.list (X.map .str), .list (Y.map .str), .list (Z.map .str)] [v0, v1, v2, v3, v4, v5, v6, v7, v8, some (.r S.length), none, v11] (SX S F) = .nx [v0, v1, v2, v3, v4, v5, v6, v7, v8, some (.r S.length), none, v11] (SX S (F ++ [Txt.join " " X, Txt.join " " Y, Txt.join " " Z])) := by
  have e1 := bl1 (v0 := v0) (v1 := v1) (v2 := v2) (v3 := v3) (v4 := v4) (v5 := v5) (v6 := v6) (v7 := v7) (v8 := v8) (v11 := v11) (S := S) (F := F) hX (by omega)
  have e2 := bl1 (v0 := v0) (v1 := v1) (v2 := v2) (v3 := v3) (v4 := v4) (v5 := v5) (v6 := v6) (v7 := v7) (v8 := v8) (v11 := v11) (S := S) (F := F ++ [Txt.join " " X]) hY (by simp; omega)
  have e3 := bl1 (v0 := v0) (v1 := v1) (v2 := v2) (v3 := v3) (v4 := v4) (v5 := v5) (v6 := v6) (v7 := v7) (v8 := v8) (v11 := v11) (S := S) (F := F ++ [Txt.join " " X] ++ [Txt.join " " Y]) hZ (by simp; omega)
  rw [show F ++ [Txt.join " " X] ++ [Txt.join " " Y] ++ [Txt.join " " Z] = F ++ [Txt.join " " X, Txt.join " " Y, Txt.join " " Z] by simp] at e3
  rw [forL_cons, x_gN]
  show (d__law_bent_l1 [v0, v1, v2, v3, v4, v5, v6, v7, v8, some (.r S.length), some (.d (.list (X.map .str))), v11] (SX S F)).seq _ = _
  rw [e1, nx_seq, forL_cons, x_gN]
  show (d__law_bent_l1 [v0, v1, v2, v3, v4, v5, v6, v7, v8, some (.r S.length), some (.d (.list (Y.map .str))), v11] _).seq _ = _
  rw [e2, nx_seq, forL_cons, x_gN]
  show (d__law_bent_l1 [v0, v1, v2, v3, v4, v5, v6, v7, v8, some (.r S.length), some (.d (.list (Z.map .str))), v11] _).seq _ = _
  rw [e3, nx_seq, forL_nil]
theorem l2_l1 : d__law_bent_l2 = d__law_bent_l1 := rfl
theorem cut_map (ws : List Str) (lo hi : Option Int) : slD lo hi (.list (ws.map .str)) = some (.list ((cutD ws lo hi).map .str)) := by
  show some (PyData.list (cutD (ws.map .str) lo hi)) = _
  congr 2
  unfold cutD
  simp
theorem add_map {A B : List Str} (h : A.length + B.length ≤ 1000000) : addD (.list (A.map .str)) (.list (B.map .str)) = some (.list ((A ++ B).map .str)) := by
  rw [o_add_l, if_pos (by rw [List.length_map, List.length_map]; exact h), List.map_append]
theorem add_str {a b : Str} (h : a.length + b.length ≤ 1000000) : addD (.str a) (.str b) = some (.str (a ++ b)) := if_pos h
theorem sl_str {z : Str} (h : z.length ≤ 1000000) (lo hi : Option Int) : slD lo hi (.str z) = some (.str (cutS z lo hi)) := if_pos h
theorem WOk.app {A B : List Str} (h1 : ∀ y ∈ A, y.length ≤ 120) (h2 : ∀ y ∈ B, y.length ≤ 120) (n : A.length + B.length ≤ 400) : WOk (A ++ B) := ⟨fun y hy => (List.mem_append.mp hy).elim (h1 y) (h2 y), by rw [List.length_append]; exact n⟩
end
section
variable [Tbl] [FnA]
theorem r_law_bent {p : Nat} {st : Sto} {t : Str} (h : Pen p st) (ht : t.length ≤ 100) : ∃ (z : Str) (st' : Sto), m__law_bent [.r p, .d (.str t)] st = .ok (.d (.str z)) st' ∧ z.length ≤ 50000 ∧ Pn p st st' := by
  have hp := h.lt
  obtain ⟨ws, hws⟩ : ∃ ws, ws = Txt.split t " " := ⟨_, rfl⟩
  have hw : ∀ y ∈ ws, y.length ≤ 120 := fun y hy => by
    rw [hws] at hy
    have := PyProof.Rows.part_short hy
    omega
  have hn1 : 1 ≤ ws.length := by rw [hws]; exact PyProof.Rows.split_pos _ _
  have hn2 : ws.length ≤ 102 := by
    have := PyProof.Rows.split_le t " "
    rw [hws]; omega
  have sp : splD (.str t) (.str " ") = some (.list (ws.map .str)) := by rw [hws]; exact if_pos ⟨by decide +kernel, by omega⟩
  clear hws
  have lt : lenF [.str t] = some (.int (t.length : Int)) := if_pos (by omega)
  have lw : lenF [.list (ws.map PyData.str)] = some (.int (ws.length : Int)) := by simp
  have ad1 : addD (.int (t.length : Int)) (.int 1) = some (.int ((t.length : Int) + 1)) := rfl
  obtain ⟨s, st1, e1, hs, c1⟩ := r_law_sign h
  obtain ⟨u, st2, e2, a2, b2, c2⟩ := r_draw ((t.length : Int) + 1) c1.pen (by omega) (by omega)
  obtain ⟨i, st3, e3, a3, b3, c3⟩ := r_draw (ws.length : Int) c2.pen (by omega) (by omega)
  obtain ⟨j, st4, e4, a4, b4, c4⟩ := r_draw (ws.length : Int) c3.pen (by omega) (by omega)
  have cc := ((c1.trans c2).trans c3).trans c4
  -- other words
  obtain ⟨s30, h30, l30⟩ : ∃ z, mulT (.str "9") (.int 30) = some (.str z) ∧ z.length = 30 := ⟨repS "9" 30, (by show (if 2 ≤ (30 : Int) ∧ (30 : Int) ≤ 100 ∧ 1 ≤ ("9" : Str).length ∧ ("9" : Str).length ≤ 1000 then some (PyData.str (repS "9" 30)) else none) = _; exact if_pos (by decide +kernel)), by rw [repS_len]; decide +kernel⟩
  obtain ⟨s31, h31, l31⟩ : ∃ z, mulT (.str "9") (.int 31) = some (.str z) ∧ z.length = 31 := ⟨repS "9" 31, (by show (if 2 ≤ (31 : Int) ∧ (31 : Int) ≤ 100 ∧ 1 ≤ ("9" : Str).length ∧ ("9" : Str).length ≤ 1000 then some (PyData.str (repS "9" 31)) else none) = _; exact if_pos (by decide +kernel)), by rw [repS_len]; decide +kernel⟩
  obtain ⟨O5, hO5⟩ : ∃ O : List Str, O = (["0", "00", "-0", "-1", "01", "61", "-", "/", "", "east", "west", "North", s30, s31, "1+1"] : List Str) := ⟨_, rfl⟩
  obtain ⟨O6, hO6⟩ : ∃ O : List Str, O = O5 ++ ([("1.1.1*1" : Str)] : List Str) := ⟨_, rfl⟩
  have o6l : O6.length = 16 := by rw [hO6, hO5]; rfl
  have o6w : ∀ z ∈ O6, z.length ≤ 31 := fun z hz => by
    rw [hO6, hO5] at hz
    simp only [List.cons_append, List.nil_append, List.mem_cons, List.not_mem_nil, or_false] at hz
    rcases hz with rfl | rfl | rfl | rfl | rfl | rfl | rfl | rfl | rfl | rfl | rfl | rfl | rfl | rfl | rfl | rfl
    iterate 12 exact (by decide +kernel)
    · omega
    · omega
    · decide +kernel
    · decide +kernel
  have nw1 : newW [.d (.str "0"), .d (.str "00"), .d (.str "-0"), .d (.str "-1"), .d (.str "01"), .d (.str "61"), .d (.str "-"), .d (.str "/"), .d (.str ""), .d (.str "east"), .d (.str "west"), .d (.str "North"), .d (.str s30), .d (.str s31), .d (.str "1+1")] st4 = .ok (.r st4.length) (SX st4 O5) := by rw [hO5]; rfl
  have il1 := isLst_l (sx_at st4 O5)
  have ap1 := appW_l (sx_at st4 O5) (by rw [hO5]; show 15 < 1000000; decide) (.str "1.1.1*1")
  rw [show O5.map PyData.str ++ [.str "1.1.1*1"] = O6.map .str by rw [hO6, List.map_append]; rfl, sx_set] at ap1
  have px6 : Px p st.length st (SX st4 O6) := cc.px.app _
  obtain ⟨v, S7, e7, a7, b7, c7⟩ := r_draw 16 px6.pen (by decide) (by decide)
  have g7 : S7[st4.length]? = some (.lst (O6.map .str)) := by rw [c7.sm _ (by have := cc.len; omega)]; exact sx_at _ _
  have lO : lenF [.list (O6.map PyData.str)] = some (.int 16) := by rw [o_len_l, List.length_map, o6l]; rfl
  have lks1 := looks_l1 (sx_at st4 O6)
  have lk7 := look1_l g7
  obtain ⟨o, ho, eo⟩ : ∃ o ∈ O6, ixD (.list (O6.map .str)) (.int v) = some (.str o) := by
    obtain ⟨d, hd, ed⟩ := atD_mem (xs := O6.map PyData.str) a7 (by rw [List.length_map, o6l]; exact b7)
    obtain ⟨o, ho, rfl⟩ := List.mem_map.mp hd
    exact ⟨o, ho, ed⟩
  have hol := o6w o ho
  -- texts with a sign otherwise
  have cl := fun lo hi => cutS_length t lo hi
  obtain ⟨P, hP⟩ : ∃ P, P = cutS t none (some u) := ⟨_, rfl⟩
  obtain ⟨Q, hQ⟩ : ∃ Q, Q = cutS t (some u) none := ⟨_, rfl⟩
  obtain ⟨R, hR⟩ : ∃ R, R = cutS t (some (u + 1)) none := ⟨_, rfl⟩
  have lP : P.length ≤ 100 := by rw [hP]; exact Nat.le_trans (cl _ _) ht
  have lQ : Q.length ≤ 100 := by rw [hQ]; exact Nat.le_trans (cl _ _) ht
  have lR : R.length ≤ 100 := by rw [hR]; exact Nat.le_trans (cl _ _) ht
  have sP : slD none (some u) (.str t) = some (.str P) := by rw [hP]; exact sl_str (by omega) _ _
  have sQ : slD (some u) none (.str t) = some (.str Q) := by rw [hQ]; exact sl_str (by omega) _ _
  have sR : slD (some (u + 1)) none (.str t) = some (.str R) := by rw [hR]; exact sl_str (by omega) _ _
  clear hP hQ hR cl
  have aPs := add_str (a := P) (b := s) (by omega)
  have lPs : (P ++ s).length ≤ 101 := by rw [str_cat]; omega
  have aPsQ := add_str (a := P ++ s) (b := Q) (by omega)
  have aPsR := add_str (a := P ++ s) (b := R) (by omega)
  have ats := add_str (a := t) (b := s) (by omega)
  have ast := add_str (a := s) (b := t) (by omega)
  have l1 : (P ++ s ++ Q).length ≤ 50000 := by rw [str_cat]; omega
  have l2 : (P ++ s ++ R).length ≤ 50000 := by rw [str_cat]; omega
  have l3 : (t ++ s).length ≤ 50000 := by rw [str_cat]; omega
  have l4 : (s ++ t).length ≤ 50000 := by rw [str_cat]; omega
  obtain ⟨F4, hF4⟩ : ∃ F : List Str, F = [P ++ s ++ Q, P ++ s ++ R, t ++ s, s ++ t] := ⟨_, rfl⟩
  have f4l : F4.length = 4 := by rw [hF4]; rfl
  have f4w : ∀ z ∈ F4, z.length ≤ 50000 := fun z hz => by
    rw [hF4] at hz
    simp only [List.mem_cons, List.not_mem_nil, or_false] at hz
    rcases hz with rfl | rfl | rfl | rfl
    · exact l1
    · exact l2
    · exact l3
    · exact l4
  have nw2 : newW [.d (.str (P ++ s ++ Q)), .d (.str (P ++ s ++ R)), .d (.str (t ++ s)), .d (.str (s ++ t))] S7 = .ok (.r S7.length) (SX S7 F4) := by rw [hF4]; rfl
  clear hF4 l1 l2 l3 l4
  generalize P ++ s ++ Q = PSQ at *
  generalize P ++ s ++ R = PSR at *
  generalize P ++ s = PS at *
  generalize t ++ s = TS at *
  generalize s ++ t = ST at *
  -- words otherwise
  have cs : ∀ lo hi, ∀ y ∈ cutD ws lo hi, y.length ≤ 120 := fun lo hi y hy => hw y (cutD_sub hy)
  have cn : ∀ lo hi, (cutD ws lo hi).length ≤ 102 := fun lo hi => Nat.le_trans cutD_len hn2
  obtain ⟨A, hA⟩ : ∃ A, A = cutD ws none (some i) := ⟨_, rfl⟩
  obtain ⟨B, hB⟩ : ∃ B, B = cutD ws (some (i + 1)) none := ⟨_, rfl⟩
  obtain ⟨D, hD⟩ : ∃ D, D = cutD ws (some i) none := ⟨_, rfl⟩
  obtain ⟨C, hC⟩ : ∃ C, C = cutD ws (some i) (some (i + 1)) := ⟨_, rfl⟩
  have wA : WOk A := ⟨by rw [hA]; exact cs _ _, by rw [hA]; have := cn none (some i); omega⟩
  have nA : A.length ≤ 102 := by rw [hA]; exact cn _ _
  have nB : B.length ≤ 102 := by rw [hB]; exact cn _ _
  have nC : C.length ≤ 102 := by rw [hC]; exact cn _ _
  have nD : D.length ≤ 102 := by rw [hD]; exact cn _ _
  have wB : ∀ y ∈ B, y.length ≤ 120 := by rw [hB]; exact cs _ _
  have wC : ∀ y ∈ C, y.length ≤ 120 := by rw [hC]; exact cs _ _
  have wD : ∀ y ∈ D, y.length ≤ 120 := by rw [hD]; exact cs _ _
  have sA : slD none (some i) (.list (ws.map .str)) = some (.list (A.map .str)) := by rw [hA]; exact cut_map _ _ _
  have sB : slD (some (i + 1)) none (.list (ws.map .str)) = some (.list (B.map .str)) := by rw [hB]; exact cut_map _ _ _
  have sC : slD (some i) (some (i + 1)) (.list (ws.map .str)) = some (.list (C.map .str)) := by rw [hC]; exact cut_map _ _ _
  have sD : slD (some i) none (.list (ws.map .str)) = some (.list (D.map .str)) := by rw [hD]; exact cut_map _ _ _
  clear hA hB hC hD cs cn
  have wo : ∀ y ∈ [o], y.length ≤ 120 := fun y hy => by rw [List.mem_singleton.mp hy]; omega
  have wAo := WOk.app wA.w wo (by simp; omega)
  have x1 := WOk.app wAo.w wB (by simp; omega)
  have x2 := WOk.app wAo.w wD (by simp; omega)
  have x4 := WOk.app wA.w wB (by omega)
  have x5 := WOk.app hw wC (by omega)
  have x6 := WOk.app wD wA.w (by omega)
  have x8 := WOk.app hw hw (by omega)
  have aAo : addD (.list (A.map .str)) (.list [.str o]) = some (.list ((A ++ [o]).map .str)) := add_map (A := A) (B := [o]) (by simp; omega)
  have aX1 := add_map (A := A ++ [o]) (B := B) (by simp; omega)
  have aX2 := add_map (A := A ++ [o]) (B := D) (by simp; omega)
  have aX4 := add_map (A := A) (B := B) (by omega)
  have aX5 := add_map (A := ws) (B := C) (by omega)
  have aX6 := add_map (A := D) (B := A) (by omega)
  have aX8 := add_map (A := ws) (B := ws) (by omega)
  obtain ⟨F7, hF7⟩ : ∃ F, F = F4 ++ [Txt.join " " (A ++ [o] ++ B), Txt.join " " (A ++ [o] ++ D), Txt.join " " A] := ⟨_, rfl⟩
  obtain ⟨F10, hF10⟩ : ∃ F, F = F7 ++ [Txt.join " " (A ++ B), Txt.join " " (ws ++ C), Txt.join " " (D ++ A)] := ⟨_, rfl⟩
  have f7l : F7.length = 7 := by rw [hF7, List.length_append, f4l]; rfl
  have f10l : F10.length = 10 := by rw [hF10, List.length_append, f7l]; rfl
  have f10w : ∀ z ∈ F10, z.length ≤ 50000 := fun z hz => by
    rw [hF10, hF7] at hz
    simp only [List.mem_append, List.mem_cons, List.not_mem_nil, or_false] at hz
    rcases hz with (hz | rfl | rfl | rfl) | rfl | rfl | rfl
    · exact f4w z hz
    · exact x1.len
    · exact x2.len
    · exact wA.len
    · exact x4.len
    · exact x5.len
    · exact x6.len
  have lp1 := loop3 (v0 := some (.r p)) (v1 := some (.d (.str t))) (v2 := some (.d (.list (ws.map .str)))) (v3 := some (.d (.str s))) (v4 := some (.d (.int (u)))) (v5 := some (.d (.int (i)))) (v6 := some (.d (.int (j)))) (v7 := some (.r st4.length)) (v8 := some (.d (.str o))) (v11 := none) (S := S7) (F := F4) x1 x2 wA (by omega)
  have lp2 := loop3 (v0 := some (.r p)) (v1 := some (.d (.str t))) (v2 := some (.d (.list (ws.map .str)))) (v3 := some (.d (.str s))) (v4 := some (.d (.int (u)))) (v5 := some (.d (.int (i)))) (v6 := some (.d (.int (j)))) (v7 := some (.r st4.length)) (v8 := some (.d (.str o))) (v11 := none) (S := S7) (F := F7) x4 x5 x6 (by omega)
  rw [← hF7] at lp1
  rw [← hF10] at lp2
  clear hF7 hF10 hO5 hO6
  -- turned words
  obtain ⟨i', rfl⟩ := Int.eq_ofNat_of_zero_le a3
  obtain ⟨j', rfl⟩ := Int.eq_ofNat_of_zero_le a4
  have hi : i' < ws.length := by omega
  have hj : j' < ws.length := by omega
  have ei : ixD (.list (ws.map .str)) (.int (i' : Int)) = some (.str ws[i']) := by
    show atD (ws.map PyData.str) (i' : Int) = _
    rw [atD_nat, List.getElem?_map, List.getElem?_eq_getElem hi]; rfl
  have ej : ixD (.list (ws.map .str)) (.int (j' : Int)) = some (.str ws[j']) := by
    show atD (ws.map PyData.str) (j' : Int) = _
    rw [atD_nat, List.getElem?_map, List.getElem?_eq_getElem hj]; rfl
  obtain ⟨T1, hT1⟩ : ∃ T, T = ws.set i' ws[j'] := ⟨_, rfl⟩
  obtain ⟨T2, hT2⟩ : ∃ T, T = T1.set j' ws[i'] := ⟨_, rfl⟩
  have t1l : T1.length = ws.length := by rw [hT1, List.length_set]
  have sw1 := setW_l (sx_at (SX S7 F10) ws) (t := (i' : Int)) (q := i') (ixN_nat (by rw [List.length_map]; exact hi)) (.str ws[j'])
  rw [← List.map_set, ← hT1, sx_set] at sw1
  have sw2 := setW_l (sx_at (SX S7 F10) T1) (t := (j' : Int)) (q := j') (ixN_nat (by rw [List.length_map, t1l]; exact hj)) (.str ws[i'])
  rw [← List.map_set, ← hT2, sx_set] at sw2
  have wT : WOk T2 := ⟨fun y hy => by
    rw [hT2] at hy
    rcases List.mem_or_eq_of_mem_set hy with q | rfl
    · rw [hT1] at q
      rcases List.mem_or_eq_of_mem_set q with q | rfl
      · exact hw y q
      · exact hw _ (List.getElem_mem hj)
    · exact hw _ (List.getElem_mem hi), by rw [hT2, List.length_set, t1l]; omega⟩
  have nT : lstN [.list (ws.map PyData.str)] = some (ws.map PyData.str) := rfl
  have jT := wT.jn
  have j8 := x8.jn
  have up : upD (.str t) = some (.str (Txt.upper t)) := if_pos (by omega)
  have lu : (Txt.upper t).length ≤ 50000 := by have := PyProof.Rows.len_upper t; omega
  obtain ⟨F13, hF13⟩ : ∃ F, F = F10 ++ [Txt.join " " T2, Txt.upper t, Txt.join " " (ws ++ ws)] := ⟨_, rfl⟩
  have f13l : F13.length = 13 := by rw [hF13, List.length_append, f10l]; rfl
  have f13w : ∀ z ∈ F13, z.length ≤ 50000 := fun z hz => by
    rw [hF13] at hz
    simp only [List.mem_append, List.mem_cons, List.not_mem_nil, or_false] at hz
    rcases hz with hz | rfl | rfl | rfl
    · exact f10w z hz
    · exact wT.len
    · exact lu
    · exact x8.len
  have aF : addD (.list (F10.map .str)) (.list [.str (Txt.join " " T2), .str (Txt.upper t), .str (Txt.join " " (ws ++ ws))]) = some (.list (F13.map .str)) := by
    rw [hF13]
    exact add_map (A := F10) (B := [Txt.join " " T2, Txt.upper t, Txt.join " " (ws ++ ws)]) (by simp; omega)
  clear hF13 hT1 hT2
  have px9 : Px p st.length st (SX (SX S7 F10) T2) := ((px6.pn c7).app _).app _
  obtain ⟨x, S10, e10, a10, b10, c10⟩ := r_draw 13 px9.pen (by decide) (by decide)
  obtain ⟨z, hz, ez⟩ : ∃ z ∈ F13, ixD (.list (F13.map .str)) (.int x) = some (.str z) := by
    obtain ⟨d, hd, ed⟩ := atD_mem (xs := F13.map PyData.str) a10 (by rw [List.length_map, f13l]; exact b10)
    obtain ⟨o, ho, rfl⟩ := List.mem_map.mp hd
    exact ⟨o, ho, ed⟩
  refine ⟨z, S10.take st.length, ?_, f13w z hz, (px9.pn c10).back hp⟩
  have lkT := look1_l (sx_at (SX S7 F10) T2)
  have gF : (SX (SX S7 F10) T2)[S7.length]? = some (.lst (F10.map .str)) := by
    show (SX S7 F10 ++ [_])[S7.length]? = _
    rw [List.getElem?_append_left (by show S7.length < (S7 ++ [_]).length; rw [List.length_append]; simp)]
    exact sx_at _ _
  have lkF := look1_l gF
  have l4' : ∀ a b c st, lstW [.d a, .d b, .d c] st = .ok (.d (.list [a, b, c])) st := fun a b c st => rfl
  have lo1 : ∀ a st, lstW [.d a] st = .ok (.d (.list [a])) st := fun a st => rfl
  have sd : ∀ xs st, srcW (.d (.list xs)) st = .ok ⟨xs, []⟩ st := fun xs st => rfl
  have a1i : addD (.int u) (.int 1) = some (.int (u + 1)) := rfl
  have a1j : addD (.int (i' : Int)) (.int 1) = some (.int ((i' : Int) + 1)) := rfl
  have nw3 : newO (some (ws.map PyData.str)) (SX S7 F10) = .ok (.r (SX S7 F10).length) (SX (SX S7 F10) ws) := rfl
  clear f13w f10w f4w o6w px9 px6 wT x1 x2 x4 x5 x6 x8 wAo wo wA wB wC wD hw gF g7 hz
  clear c1 c2 c3 c4 cc c7 c10
  generalize (ws ++ ws).map PyData.str = D8 at *
  generalize (ws ++ C).map PyData.str = D5 at *
  generalize (D ++ A).map PyData.str = D6 at *
  generalize (A ++ B).map PyData.str = D4 at *
  generalize (A ++ [o] ++ B).map PyData.str = D1 at *
  generalize (A ++ [o] ++ D).map PyData.str = D2 at *
  generalize (A ++ [o]).map PyData.str = D0 at *
  generalize A.map PyData.str = DA at *
  generalize B.map PyData.str = DB at *
  generalize C.map PyData.str = DC at *
  generalize D.map PyData.str = DD at *
  generalize T2.map PyData.str = DT2 at *
  generalize F13.map PyData.str = DF13 at *
  generalize F10.map PyData.str = DF10 at *
  generalize O6.map PyData.str = DO6 at *
  generalize hI : ws[i'] = WI at *
  generalize hJ : ws[j'] = WJ at *
  have lkW := look1_l (sx_at (SX S7 F10) ws)
  generalize SX (SX S7 F10) T2 = SS2 at *
  generalize SX (SX S7 F10) T1 = SS1 at *
  generalize SX (SX S7 F10) ws = SS0 at *
  generalize (SX S7 F10).length = n2 at *
  generalize SX S7 F10 = SS at *
  generalize SX S7 F7 = SB at *
  generalize SX S7 F4 = SA at *
  generalize S7.length = n1 at *
  generalize SX st4 O6 = S6 at *
  generalize SX st4 O5 = S5 at *
  generalize st4.length = n0 at *
  generalize ws.map PyData.str = WS at *
  generalize (ws.length : Int) = N at *
  generalize (t.length : Int) = L at *
  generalize (i' : Int) = ii at *
  generalize (j' : Int) = jj at *
  generalize Txt.join " " T2 = J7 at *
  generalize Txt.join " " (ws ++ ws) = J8 at *
  generalize Txt.upper t = UT at *
  unfold m__law_bent d__law_bent
  rw [l2_l1]
  simp -implicitDefEqProofs [sp, e1, lt, ad1, e2, lw, e3, e4, h30, h31, nw1, il1, ap1, lks1, lO, e7, lk7, eo, sP, aPs, sQ, aPsQ, a1i, sR, aPsR, ats, ast, nw2, sA, sB, sC, sD, lo1, aAo, aX1, aX2, a1j, l4', sd, lp1, aX4, aX5, aX6, lp2, wipeE, nT, nw3, lkW, ei, ej, swpW, sw1, sw2, lkF, lkT, jT, up, aX8, j8, aF, e10, ez, -o_add_l, -o_add_i, -o_len_l, -forL_cons]
end
section
variable [Tbl] [FnA]
/-! ## what can be shown -/
theorem fd_str {z : Str} {n : Nat} (h : ∀ c ∈ TL.tl z, c < 16 ^ 8) (hn : z.length ≤ n) : Fd 0 (10 * n + 2) (.str z) := by
  refine ⟨rfl, rfl, Nat.le_refl _, ?_⟩
  have := StrLaws.reprText_len z h
  show (reprText z).length ≤ _
  omega
theorem joinL_mem {c : Nat} {S : List Nat} : ∀ {ls : List (List Nat)}, c ∈ TL.joinL S ls → c ∈ S ∨ ∃ l ∈ ls, c ∈ l
  | [], h => absurd h List.not_mem_nil
  | [p], h => .inr ⟨p, by simp, h⟩
  | p :: q :: r, h => by
    have h : c ∈ p ++ (S ++ TL.joinL S (q :: r)) := h
    rcases List.mem_append.mp h with h | h
    · exact .inr ⟨p, by simp, h⟩
    · rcases List.mem_append.mp h with h | h
      · exact .inl h
      · rcases joinL_mem (ls := q :: r) h with h | ⟨l, hl, h⟩
        · exact .inl h
        · exact .inr ⟨l, List.mem_cons_of_mem _ hl, h⟩
theorem sgnI_lt {i : Int} {c : Nat} (h : c ∈ sgnI i) : c < 128 := by
  have d : ∀ n, c ∈ TL.numL n → c < 128 := fun n hc => by have := TL.numL_digits n c hc; omega
  unfold sgnI at h
  split at h
  · exact d _ h
  · rcases List.mem_cons.mp h with rfl | h
    · decide
    · exact d _ h
theorem way_lt' {w : Str} (h : w ∈ waysL) : ∀ c ∈ TL.tl w, c < 128 := by
  simp only [waysL, List.mem_cons, List.not_mem_nil, or_false] at h
  rcases h with rfl | rfl | rfl | rfl <;> decide +kernel
theorem sgnI_sm {i : Int} (h : i.natAbs < 10 ^ 4) : (shI i).length ≤ 5 := by
  rw [← tl_len, tl_shI]
  have l1 := fun n (hn : n < 10 ^ 4) => TL.numL_len (n := n) (k := 4) (by decide) hn
  unfold sgnI
  split
  · have := l1 i.toNat (by omega); omega
  · have := l1 i.natAbs h
    rw [List.length_cons]; omega
theorem pthW_sm {p : Pth} (h : PthS p) : ∀ w ∈ pthW p, w.length ≤ 5 ∧ ∀ c ∈ TL.tl w, c < 128 := fun w hw => by
  have hs : ∀ i : Int, i.natAbs < 10 ^ 4 → (shI i).length ≤ 5 ∧ ∀ c ∈ TL.tl (shI i), c < 128 := fun i hi => ⟨sgnI_sm hi, fun c hc => by rw [tl_shI] at hc; exact sgnI_lt hc⟩
  have hx := h.x
  have hy := h.y
  unfold pthW at hw
  rcases List.mem_append.mp hw with q | q
  · simp at q
    rcases q with rfl | rfl
    · exact hs _ (by omega)
    · exact hs _ (by omega)
  · obtain ⟨l, hl, q⟩ := List.mem_flatMap.mp q
    have h1 := (h.ok.w l hl).1
    have h2 := h.l l hl
    unfold legW at q
    simp at q
    rcases q with rfl | rfl
    · exact ⟨(way_free h1).2, way_lt' h1⟩
    · exact hs _ (by omega)
theorem text_len {p : Pth} (h : PthS p) : (Txt.join " " (pthW p)).length ≤ 100 := by
  have n : (pthW p).length ≤ 14 := by rw [pthW_len]; have := h.n; omega
  exact Nat.le_trans (join_len (fun y hy => (pthW_sm h y hy).1) n).1 (by decide)
theorem fd_text {p : Pth} (h : PthS p) : Fd 0 2000 (.str (Txt.join " " (pthW p))) := (fd_str (n := 100) (fun c hc => by
  rw [TL.join_eq, TL.tl_join, blank_tl] at hc
  rcases joinL_mem hc with q | ⟨l, hl, q⟩
  · rw [List.mem_singleton.mp q]; decide
  · obtain ⟨w, hw, rfl⟩ := List.mem_map.mp hl
    have := (pthW_sm h w hw).2 c q
    exact Nat.lt_trans this (by decide)) (text_len h)).up (Nat.le_refl _) (by decide)
theorem fd_pth {p : Pth} (hw : ∀ l ∈ p.2.2, l.1 ∈ waysL) (h : isPath (pthD p) = true) : Fd 3 3000 (pthD p) := by
  obtain ⟨a1, a2, a3, a4, a5, _⟩ := (path_iff p hw).mp h
  have leg : ∀ l ∈ p.2.2, Fd 1 (2 * (60 + 2) + 3) (legD l) := fun l hl => fd_tup 2 (fun x hx => by
    simp only [legD, List.mem_cons, List.not_mem_nil, or_false] at hx
    rcases hx with rfl | rfl
    · have h1 := hw l hl
      exact (fd_str (n := 5) (fun c hc => Nat.lt_trans (way_lt' h1 c hc) (by decide)) (way_free h1).2).up (Nat.le_refl _) (by decide)
    · have := a5 l hl
      exact (fd_int (by omega)).up (Nat.le_refl _) (by decide)) (by simp)
  have legs : Fd 2 (6 * (2 * (60 + 2) + 3 + 2) + 3) (.tuple (p.2.2.map legD)) := fd_tup 6 (fun x hx => by
    obtain ⟨l, hl, rfl⟩ := List.mem_map.mp hx
    exact leg l hl) (by rw [List.length_map]; exact a4)
  exact (fd_tup (k := 2) (n := 6 * (2 * (60 + 2) + 3 + 2) + 3) 3 (fun x hx => by
    simp only [List.mem_cons, List.not_mem_nil, or_false] at hx
    rcases hx with rfl | rfl | rfl
    · exact (fd_int (by omega)).up (by decide) (by decide)
    · exact (fd_int (by omega)).up (by decide) (by decide)
    · exact legs) (by simp)).up (Nat.le_refl _) (by decide)
theorem fd_tx {e : Int} (h : e.natAbs < 10 ^ 40) : Fd 3 3000 (.tuple [.str "text", .int e]) := (fd_tup (k := 0) (n := 50) 2 (fun x hx => by
    simp only [List.mem_cons, List.not_mem_nil, or_false] at hx
    rcases hx with rfl | rfl
    · exact (fd_str (n := 4) (by decide +kernel) (by decide +kernel)).up (Nat.le_refl _) (by decide)
    · exact (fd_int h).up (Nat.le_refl _) (by decide)) (by simp)).up (by decide) (by decide)
/-! ## how far a wrong word is -/
theorem legs_err {ws : List Str} : ∀ (f h e : Nat), rdLegs ws f h = .error e → e ≤ ws.length
  | 0, h, e, q => nomatch q
  | f + 1, h, e, q => by
    rw [rd_succ] at q
    cases hy : wayAt waysL ws h with
    | none => rw [hy] at q; cases q
    | some w =>
      have := way_lt hy
      rw [hy] at q
      dsimp only at q
      cases hn : numAt ws (h + 1) with
      | none => rw [hn] at q; cases q; omega
      | some n =>
        rw [hn] at q
        dsimp only at q
        cases hr : rdLegs ws f (h + 2) with
        | error e' =>
          rw [hr] at q
          cases q
          exact legs_err f (h + 2) e hr
        | ok p => rw [hr] at q; cases q
theorem path_err {ws : List Str} {e : Nat} (h : rdPath ws = .error e) : e ≤ ws.length + 3 := by
  unfold rdPath at h
  cases h0 : numAt ws 0 with
  | none => rw [h0] at h; cases h; omega
  | some x =>
    cases h1 : numAt ws 1 with
    | none => rw [h0, h1] at h; cases h; omega
    | some y =>
      cases h2 : wayAt waysL ws 2 with
      | none => rw [h0, h1, h2] at h; cases h; omega
      | some w =>
        cases h3 : numAt ws 3 with
        | none => rw [h0, h1, h2, h3] at h; cases h; omega
        | some n =>
          rw [h0, h1, h2, h3] at h
          dsimp only at h
          cases hr : rdLegs ws 100000 4 with
          | error e' =>
            rw [hr] at h
            cases h
            have := legs_err _ _ _ hr
            omega
          | ok p' => rw [hr] at h; cases h
theorem fd_pr {t : Str} (hn : (Txt.split t " ").length ≤ 100000) : Fd 3 3000 (prD (prT t)) := by
  unfold prT
  cases hr : rdPath (Txt.split t " ") with
  | error e =>
    have := path_err hr
    exact fd_tx (e := (e : Int)) (by omega)
  | ok z =>
    obtain ⟨p, k⟩ := z
    obtain ⟨_, _, hw, hk⟩ := path_ways hr
    dsimp only
    split
    · rename_i q
      exact fd_pth hw q.2
    · exact fd_tx (e := (k : Int)) (by omega)
/-! ## what is said of a thing is what is due -/
def GT (d : PyData) : Prop := (∃ t : Str, d = .str t ∧ t.length ≤ 50000) ∨ isaD "str" d = some (.bool false)
theorem said_due {d : PyData} (h : GT d) : ∃ X, (∀ st : Sto, saidR none fl__law_said st.length (m_path_read [.d d] st) = .ok (.d X) st) ∧ (∀ st, m__law_due [.d d] st = .ok (.d X) st) ∧ reprF [X] = some (.str X.shown) := by
  rcases h with ⟨t, rfl, ht⟩ | h
  · have hw : ∀ w ∈ Txt.split t " ", w.length ≤ 1000000 := fun w hw => by have := PyProof.Rows.part_short hw; omega
    have hn : (Txt.split t " ").length ≤ 100000 := by have := PyProof.Rows.split_le t " "; omega
    refine ⟨prD (prT t), fun st => ?_, fun st => r_law_due (by omega) hw hn st, o_repr (fd_pr hn) (by decide) (by decide)⟩
    rw [r_path_read (by omega) hw hn st]
    cases prT t with
    | ok p =>
      dsimp only
      rw [saidR_d, List.take_length]; rfl
    | error e =>
      dsimp only
      rw [saidR_ex none fl__law_said st.length (show fl__law_said (noT e) = some (txE e) from rfl), List.take_length]; rfl
  · refine ⟨.tuple [.str "text", .int (-1)], fun st => ?_, fun st => r_law_dueX h st, o_repr (fd_tx (by decide)) (by decide) (by decide)⟩
    rw [r_path_readX h, saidR_ex none fl__law_said st.length (show fl__law_said notx = some (.tuple [.str "text", .int (-1)]) from rfl), List.take_length]
theorem es_is (c : En → Sto → Rs Wv) (env : En) (st : Sto) : eSaid told__law_said fl__law_said c env st = saidR none fl__law_said st.length (c env st) := rfl
theorem ne_same (z : Str) : neD (.str z) (.str z) = some (.bool false) := by rw [o_ne_s, beq_self_eq_true]; rfl
theorem l1_turn {v0 v1 v2 v3 v4 v5 v6 v7 v9 : Option Wv} {d : PyData} (h : GT d) (st : Sto) : d_law_l1 [v0, v1, v2, v3, v4, v5, v6, v7, some (.d d), v9] st = .nx [v0, v1, v2, v3, v4, none, v6, v7, some (.d d), v9] st := by
  obtain ⟨X, e1, e2, e3⟩ := said_due h
  have ne := ne_same X.shown
  have e0 : ∀ st, (eSaid told__law_said fl__law_said (eCall m_path_read (aCons (eVar 8) aNil))) [v0, v1, v2, v3, v4, v5, v6, v7, some (.d d), v9] st = .ok (.d X) st := fun st => by
    rw [es_is]
    exact e1 st
  unfold d_law_l1
  generalize (eSaid told__law_said fl__law_said (eCall m_path_read (aCons (eVar 8) aNil))) = ES at *
  generalize X.shown = SH at *
  simp -implicitDefEqProofs [e0, e2, e3, ne, wipeE, -o_ne_s]
theorem for_same {g : Wv → En → Option En} {b : En → Sto → SR} {env : En} {st : Sto} : ∀ (L : List PyData), (∀ x ∈ L, ∃ env1, g (.d x) env = some env1 ∧ b env1 st = .nx env st) → forL g b [] L env st = .nx env st
  | [], _ => forL_nil _ _ _ _
  | x :: L, h => by
    obtain ⟨env1, e1, e2⟩ := h x (by simp)
    rw [forL_cons, e1]
    dsimp only
    rw [e2, nx_seq, for_same L fun y hy => h y (List.mem_cons_of_mem _ hy)]
theorem l2_turn {v0 v1 v2 v3 v4 v6 v7 v9 : Option Wv} {d : PyData} (h : GT d) (st : Sto) : d_law_l2 [v0, v1, v2, v3, v4, none, v6, v7, some (.d d), v9] st = .nx [v0, v1, v2, v3, v4, none, v6, v7, none, v9] st := by
  have rg := rg1_ok (i := 2) st (by decide) (by decide)
  have f := for_same (g := gN 5) (b := d_law_l1) (env := [v0, v1, v2, v3, v4, none, v6, v7, some (.d d), v9]) (st := st) (rangeD 0 (2 : Int).toNat) fun x _ => ⟨[v0, v1, v2, v3, v4, some (.d x), v6, v7, some (.d d), v9], rfl, l1_turn h st⟩
  generalize rangeD 0 (2 : Int).toNat = RG at *
  unfold d_law_l2
  simp -implicitDefEqProofs [rg, f, wipeE, -forL_cons]
theorem l3_turn {v0 v1 v2 v3 v4 v5 v6 v8 v9 : Option Wv} {d : PyData} (h : isPath d = false) (st : Sto) : d_law_l3 [v0, v1, v2, v3, v4, v5, v6, some (.d d), v8, v9] st = .nx [v0, v1, v2, v3, v4, v5, v6, none, v8, v9] st := by
  have e0 : ∀ st, (eSaid told__law_said fl__law_said (eCall m_path_shown (aCons (eVar 7) aNil))) [v0, v1, v2, v3, v4, v5, v6, some (.d d), v8, v9] st = .ok (.d (.tuple [.str "path"])) st := fun st => by
    rw [es_is]
    show saidR none fl__law_said st.length (m_path_shown [.d d] st) = _
    rw [r_path_shownX h, saidR_ex none fl__law_said st.length (show fl__law_said ⟨"NoPath", []⟩ = some (.tuple [.str "path"]) from rfl), List.take_length]
  have t1 : ∀ a st, tupW [.d a] st = .ok (.d (.tuple [a])) st := fun a st => rfl
  have ne : neD (.tuple [.str "path"]) (.tuple [.str "path"]) = some (.bool false) := rfl
  unfold d_law_l3
  generalize (eSaid told__law_said fl__law_said (eCall m_path_shown (aCons (eVar 7) aNil))) = ES at *
  simp -implicitDefEqProofs [e0, t1, ne, wipeE]
def oddL : List PyData := [PyData.none, .bool true, .bool false, .int (-1), .int 0, .int 1, .int 21, .int 100, .int 100000000000000000000000000000, .str "", .str "1", .str "a", .list [], .tuple [], .dict [], .tuple [.int 1], .tuple [.int 1, .int 0], .tuple [.none], .list [.int 1]]
theorem r_law_odd {p : Nat} {st : Sto} (h : Pen p st) : ∃ (d : PyData) (st' : Sto), m__law_odd [.r p] st = .ok (.d d) st' ∧ GT d ∧ Pn p st st' := by
  obtain ⟨v1, st1, e1, a1, b1, c1⟩ := r_draw 19 h (by decide) (by decide)
  obtain ⟨d, hd, ed⟩ := atD_mem (xs := oddL) a1 (by simpa [oddL] using b1)
  refine ⟨d, st1, ?_, ?_, c1⟩
  · have t1 : st1.take st.length = st1 := by rw [← c1.len]; simp
    have pw : powD (.int 10) (.int 29) = some (.int 100000000000000000000000000000) := rfl
    unfold oddL at ed
    unfold m__law_odd d__law_odd
    simp -implicitDefEqProofs [lstW, tupW, e1, pw, ed, t1, -o_pow_i]
  · simp only [oddL, List.mem_cons, List.not_mem_nil, or_false] at hd
    rcases hd with rfl | rfl | rfl | rfl | rfl | rfl | rfl | rfl | rfl | rfl | rfl | rfl | rfl | rfl | rfl | rfl | rfl | rfl | rfl <;> first | exact .inr rfl | exact .inl ⟨_, rfl, by decide +kernel⟩
end
section
variable [Tbl] [FnA]
theorem mul_s {x : Str} {k : Int} (h : 2 ≤ k ∧ k ≤ 100 ∧ 1 ≤ x.length ∧ x.length ≤ 1000) : mulT (.str x) (.int k) = some (.str (repS x k.toNat)) := by
  show (if 2 ≤ k ∧ k ≤ 100 ∧ 1 ≤ x.length ∧ x.length ≤ 1000 then some (PyData.str (repS x k.toNat)) else none) = _
  exact if_pos h
theorem gt_s {z : Str} (h : z.length ≤ 50000) : GT (.str z) := .inl ⟨z, rfl, h⟩
theorem cell (sc : Wv) (c : Int) (st : Sto) : ∃ st', d_law_l4 (some sc :: some (.d (.int c)) :: List.replicate 8 none) st = .nx (some sc :: List.replicate 9 none) st' := by
  obtain ⟨x0, x1, x2, e0⟩ := r_pen_of c st
  have pn : Pen st.length (st ++ [.lst [.int x0, .int x1, .int x2]]) := ⟨x0, x1, x2, get_mid st [] _⟩
  generalize st ++ [Ob.lst [.int x0, .int x1, .int x2]] = st1 at *
  generalize hp : st.length = p at *
  obtain ⟨P, st2, e1, hP, c1⟩ := r_path pn
  have pT := fun st => r_path_text hP.ok hP.n st
  have tl := text_len hP
  have fT := o_repr (fd_text hP) (by decide) (by decide)
  have fP := o_repr (fd_pth (fun l hl => (hP.ok.w l hl).1) hP.is) (by decide) (by decide)
  have pw : (10 : Nat) ^ 30 < 10 ^ 40 := by decide
  have sh := fun st => r_path_shown hP.is (Nat.lt_trans hP.ok.x pw) (Nat.lt_trans hP.ok.y pw) (by have := hP.n; omega) (fun l hl => Nat.lt_trans (hP.ok.w l hl).2 pw) (by
    have := (join_len (n := 14) (fun y hy => (pthW_sm hP y hy).1) (by rw [pthW_len]; have := hP.n; omega)).2
    omega) st
  have rd : ∀ st, m_path_read [.d (.str (Txt.join " " (pthW P)))] st = .ok (.d (pthD P)) st := fun st => by
    rw [r_path_read (by omega) (fun w hw => by have := PyProof.Rows.part_short hw; omega) (by have := PyProof.Rows.split_le (Txt.join " " (pthW P)) " "; omega) st, pr_back hP.ok hP.is]
  have xp2 : ixD (pthD P) (.int 2) = some (.tuple (P.2.2.map legD)) := rfl
  have xsl : slD none (some 2) (pthD P) = some (.tuple [.int P.1, .int P.2.1]) := rfl
  have xls : lstF [pthD P] = some (.list [.int P.1, .int P.2.1, .tuple (P.2.2.map legD)]) := rfl
  have isx : isaD "str" (pthD P) = some (.bool false) := rfl
  generalize hT : Txt.join " " (pthW P) = T at *
  obtain ⟨bs, st3, e3, hbl, hbs, c3⟩ := lcL_pen (g := gN 5) (c := eCall m__law_bent (aCons (eVar 2) (aCons (eVar 4) aNil))) (env := [some sc, some (.d (.int (c))), some (.r p), some (.d (pthD P)), some (.d (.str T)), none, none, none, none, none]) GT (rangeD 0 20) [] st2 c1.pen fun x _ st pn => by
    obtain ⟨z, st', e, hz, cz⟩ := r_law_bent pn tl
    exact ⟨_, .str z, st', rfl, by simpa using e, gt_s hz, cz⟩
  rw [List.nil_append] at e3
  rw [rangeD_len] at hbl
  obtain ⟨o, st4, e4, ho, c4⟩ := r_law_odd c3.pen
  have rg := rg1_ok (i := 20) st2 (by decide) (by decide)
  rw [show (20 : Int).toNat = 20 from rfl] at rg
  have m1 := mul_s (x := " east 9 north 9") (k := 3) (by decide +kernel)
  have m2 := mul_s (x := "9") (k := 30) (by decide +kernel)
  have m3 := mul_s (x := "9") (k := 31) (by decide +kernel)
  have k1 : (repS " east 9 north 9" (3 : Int).toNat).length ≤ 100 := by rw [repS_len]; decide +kernel
  have k2 : (repS "9" (30 : Int).toNat).length ≤ 100 := by rw [repS_len]; decide +kernel
  have k3 : (repS "9" (31 : Int).toNat).length ≤ 100 := by rw [repS_len]; decide +kernel
  generalize repS " east 9 north 9" (3 : Int).toNat = R1 at *
  generalize repS "9" (30 : Int).toNat = R2 at *
  generalize repS "9" (31 : Int).toNat = R3 at *
  have q0 : ("0 0" : Str).length = 3 := by decide +kernel
  have q1 : (" east 9" : Str).length = 7 := by decide +kernel
  have q2 : ("-" : Str).length = 1 := by decide +kernel
  have q3 : (" 0 east 9" : Str).length = 9 := by decide +kernel
  have a1 := add_str (a := "0 0") (b := R1) (by omega)
  have a2 := add_str (a := "0 0" ++ R1) (b := " east 9") (by rw [str_cat]; omega)
  have a3 := add_str (a := "-") (b := R2) (by omega)
  have a4 := add_str (a := "-" ++ R2) (b := " 0 east 9") (by rw [str_cat]; omega)
  have a5 := add_str (a := "-") (b := R3) (by omega)
  have a6 := add_str (a := "-" ++ R3) (b := " 0 east 9") (by rw [str_cat]; omega)
  have z1 : GT (.str ("0 0" ++ R1 ++ " east 9")) := gt_s (by rw [str_cat, str_cat]; omega)
  have z2 : GT (.str ("-" ++ R2 ++ " 0 east 9")) := gt_s (by rw [str_cat, str_cat]; omega)
  have z3 : GT (.str ("-" ++ R3 ++ " 0 east 9")) := gt_s (by rw [str_cat, str_cat]; omega)
  clear q0 q1 q2 q3 k1 k2 k3
  generalize ("0 0" : Str) ++ R1 ++ " east 9" = Z1 at *
  generalize ("-" : Str) ++ R2 ++ " 0 east 9" = Z2 at *
  generalize ("-" : Str) ++ R3 ++ " 0 east 9" = Z3 at *
  generalize ("0 0" : Str) ++ R1 = Y1 at *
  generalize ("-" : Str) ++ R2 = Y2 at *
  generalize ("-" : Str) ++ R3 = Y3 at *
  obtain ⟨L1, hL1⟩ : ∃ L, L = [PyData.str T] ++ bs := ⟨_, rfl⟩
  obtain ⟨L2, hL2⟩ : ∃ L, L = L1 ++ [o, pthD P, .str "", .str "0 0"] := ⟨_, rfl⟩
  obtain ⟨L3, hL3⟩ : ∃ L, L = L2 ++ [.str "0 0 east", .str "0 0 east 0", .str Z1] := ⟨_, rfl⟩
  obtain ⟨L4, hL4⟩ : ∃ L, L = L3 ++ [.str Z2, .str Z3] := ⟨_, rfl⟩
  obtain ⟨L5, hL5⟩ : ∃ L, L = L4 ++ [.str "0 0 east 9 west 9", .str "0 0 east 9 east 9", .str "0 0 east 9 /", .str "-1001 0 south 1", .str T] := ⟨_, rfl⟩
  have n1 : L1.length = 21 := by rw [hL1, List.length_append, hbl]; rfl
  have n2 : L2.length = 25 := by rw [hL2, List.length_append, n1]; rfl
  have n3 : L3.length = 28 := by rw [hL3, List.length_append, n2]; rfl
  have n4 : L4.length = 30 := by rw [hL4, List.length_append, n3]; rfl
  have ad : ∀ {xs ys : List PyData}, xs.length + ys.length ≤ 1000 → addD (.list xs) (.list ys) = some (.list (xs ++ ys)) := fun h => by rw [o_add_l, if_pos (by omega)]
  have d1 : addD (.list [.str T]) (.list bs) = some (.list L1) := by rw [hL1]; exact ad (by rw [hbl]; show 1 + 20 ≤ 1000; decide)
  have d2 : addD (.list L1) (.list [o, pthD P, .str "", .str "0 0"]) = some (.list L2) := by rw [hL2]; exact ad (by rw [n1]; show 21 + 4 ≤ 1000; decide)
  have d3 : addD (.list L2) (.list [.str "0 0 east", .str "0 0 east 0", .str Z1]) = some (.list L3) := by rw [hL3]; exact ad (by rw [n2]; show 25 + 3 ≤ 1000; decide)
  have d4 : addD (.list L3) (.list [.str Z2, .str Z3]) = some (.list L4) := by rw [hL4]; exact ad (by rw [n3]; show 28 + 2 ≤ 1000; decide)
  have d5 : addD (.list L4) (.list [.str "0 0 east 9 west 9", .str "0 0 east 9 east 9", .str "0 0 east 9 /", .str "-1001 0 south 1", .str T]) = some (.list L5) := by rw [hL5]; exact ad (by rw [n4]; show 30 + 5 ≤ 1000; decide)
  have gT : GT (.str T) := gt_s (by omega)
  have g5 : ∀ d ∈ L5, GT d := fun d hd => by
    rw [hL5, hL4, hL3, hL2, hL1] at hd
    simp only [List.mem_append, List.mem_cons, List.not_mem_nil, or_false] at hd
    rcases hd with ((((rfl | hd) | rfl | rfl | rfl | rfl) | rfl | rfl | rfl) | rfl | rfl) | rfl | rfl | rfl | rfl | rfl
    · exact gT
    · exact hbs d hd
    · exact ho
    · exact .inr isx
    · exact gt_s (by decide +kernel)
    · exact gt_s (by decide +kernel)
    · exact gt_s (by decide +kernel)
    · exact gt_s (by decide +kernel)
    · exact z1
    · exact z2
    · exact z3
    · exact gt_s (by decide +kernel)
    · exact gt_s (by decide +kernel)
    · exact gt_s (by decide +kernel)
    · exact gt_s (by decide +kernel)
    · exact gT
  have lp := for_same (g := gN 8) (b := d_law_l2) (env := [some sc, some (.d (.int (c))), some (.r p), some (.d (pthD P)), some (.d (.str T)), none, some (.d (.list L4)), none, none, none]) (st := st4) L5 fun x hx => ⟨_, rfl, l2_turn (g5 x hx) st4⟩
  obtain ⟨B, hB⟩ : ∃ B, B = [PyData.none, .str T, .tuple [.int P.1, .int P.2.1], .list [.int P.1, .int P.2.1, .tuple (P.2.2.map legD)], .tuple [.int 0, .int 0, .tuple []], .tuple [.int 0, .int 0, .tuple [.tuple [.str "east", .int 0]]], .tuple [.int 0, .bool true, .tuple (P.2.2.map legD)]] := ⟨_, rfl⟩
  have gB : ∀ d ∈ B, isPath d = false := fun d hd => by
    rw [hB] at hd
    simp only [List.mem_cons, List.not_mem_nil, or_false] at hd
    rcases hd with rfl | rfl | rfl | rfl | rfl | rfl | rfl <;> rfl
  have lb := for_same (g := gN 7) (b := d_law_l3) (env := [some sc, some (.d (.int (c))), some (.r p), some (.d (pthD P)), some (.d (.str T)), none, some (.d (.list L4)), none, none, none]) (st := st4) B fun x hx => ⟨_, rfl, l3_turn (gB x hx) st4⟩
  have ne1 := ne_same (PyData.shown (.str T))
  have ne2 := ne_same (pthD P).shown
  have lw1 : ∀ a st, lstW [.d a] st = .ok (.d (.list [a])) st := fun a st => rfl
  have lw2 : ∀ a b st, lstW [.d a, .d b] st = .ok (.d (.list [a, b])) st := fun a b st => rfl
  have lw3 : ∀ a b c st, lstW [.d a, .d b, .d c] st = .ok (.d (.list [a, b, c])) st := fun a b c st => rfl
  have lw4 : ∀ a b c d st, lstW [.d a, .d b, .d c, .d d] st = .ok (.d (.list [a, b, c, d])) st := fun a b c d st => rfl
  have lw5 : ∀ a b c d e st, lstW [.d a, .d b, .d c, .d d, .d e] st = .ok (.d (.list [a, b, c, d, e])) st := fun a b c d e st => rfl
  have lw7 : ∀ st, lstW [.d .none, .d (.str T), .d (.tuple [.int P.1, .int P.2.1]), .d (.list [.int P.1, .int P.2.1, .tuple (P.2.2.map legD)]), .d (.tuple [.int 0, .int 0, .tuple []]), .d (.tuple [.int 0, .int 0, .tuple [.tuple [.str "east", .int 0]]]), .d (.tuple [.int 0, .bool true, .tuple (P.2.2.map legD)])] st = .ok (.d (.list B)) st := fun st => by rw [hB]; rfl
  have t0 : ∀ st, tupW [] st = .ok (.d (.tuple [])) st := fun st => rfl
  have t1 : ∀ a st, tupW [.d a] st = .ok (.d (.tuple [a])) st := fun a st => rfl
  have t2 : ∀ a b st, tupW [.d a, .d b] st = .ok (.d (.tuple [a, b])) st := fun a b st => rfl
  have t3 : ∀ a b c st, tupW [.d a, .d b, .d c] st = .ok (.d (.tuple [a, b, c])) st := fun a b c st => rfl
  have sd : ∀ xs st, srcW (.d (.list xs)) st = .ok ⟨xs, []⟩ st := fun xs st => rfl
  have bl5 : (rangeD 0 20).length ≤ 1000000 := by rw [rangeD_len]; decide
  refine ⟨st4, ?_⟩
  show d_law_l4 [some sc, some (.d (.int (c))), none, none, none, none, none, none, none, none] st = .nx [some sc, none, none, none, none, none, none, none, none, none] st4
  clear hL1 hL2 hL3 hL4 hL5 hB g5 gB n1 n2 n3 n4 hbs hP ad z1 z2 z3 gT ho
  generalize P.2.2.map legD = LD at *
  generalize (pthD P).shown = SP at *
  generalize PyData.shown (.str T) = ST at *
  generalize pthD P = PD at *
  generalize rangeD 0 20 = RG at *
  generalize P.1 = X at *
  generalize P.2.1 = Y at *
  unfold d_law_l4
  simp -implicitDefEqProofs [e0, e1, pT, sh, fT, ne1, rd, fP, ne2, lw1, rg, e3, bl5, wipeE, d1, e4, lw4, d2, m1, a1, a2, lw3, d3, m2, a3, a4, m3, a5, a6, lw2, d4, lw5, d5, sd, lp, xsl, xls, t0, t1, t2, t3, xp2, lw7, lb, -o_add_l, -o_ne_s, -forL_cons]
theorem law_ok (ns : List Int) (h : ns.length ≤ 63) : ∃ st, m_law [.d (.list (ns.map .int))] [] = .ok (.d (.bool true)) st := outer_w (n := 8) (K := 3) (body := d_law_l4) (fun sc c st => cell sc c st) ns h
end
theorem all_mk {P : Program} {w : World} {K : Frg} {h : Heap} {mg : Str → Option Value} {fa : Addr} (X : K.In h) (G : h.Ns mainGlobals mg) (hfa : mg "law" = some (.ref fa)) {ts : List Addr}
    {C_Words : Addr}
    {f_0 : Addr} {od_0 an_0 : Option Addr} {sl_0 : Array (Option Value)} {oc_0 kV_0 dc_0 pm_0 cd_0 ct_0 : Value}
    {f_1 : Addr} {od_1 an_1 : Option Addr} {sl_1 : Array (Option Value)} {oc_1 kV_1 dc_1 pm_1 cd_1 ct_1 : Value}
    {f_2 : Addr} {od_2 an_2 : Option Addr} {sl_2 : Array (Option Value)} {oc_2 kV_2 dc_2 pm_2 cd_2 ct_2 : Value}
    {f_3 : Addr} {od_3 an_3 : Option Addr} {sl_3 : Array (Option Value)} {oc_3 kV_3 dc_3 pm_3 cd_3 ct_3 : Value}
    {f_4 : Addr} {od_4 an_4 : Option Addr} {sl_4 : Array (Option Value)} {oc_4 kV_4 dc_4 pm_4 cd_4 ct_4 : Value}
    {f_5 : Addr} {od_5 an_5 : Option Addr} {sl_5 : Array (Option Value)} {oc_5 kV_5 dc_5 pm_5 cd_5 ct_5 : Value}
    {f_6 : Addr} {od_6 an_6 : Option Addr} {sl_6 : Array (Option Value)} {oc_6 kV_6 dc_6 pm_6 cd_6 ct_6 : Value}
    {f_7 : Addr} {od_7 an_7 : Option Addr} {sl_7 : Array (Option Value)} {oc_7 kV_7 dc_7 pm_7 cd_7 ct_7 : Value}
    {f_8 : Addr} {od_8 an_8 : Option Addr} {sl_8 : Array (Option Value)} {oc_8 kV_8 dc_8 pm_8 cd_8 ct_8 : Value}
    {f_9 : Addr} {od_9 an_9 : Option Addr} {sl_9 : Array (Option Value)} {oc_9 kV_9 dc_9 pm_9 cd_9 ct_9 : Value}
    {f_10 : Addr} {od_10 an_10 : Option Addr} {sl_10 : Array (Option Value)} {oc_10 kV_10 dc_10 pm_10 cd_10 ct_10 : Value}
    {f_11 : Addr} {od_11 an_11 : Option Addr} {sl_11 : Array (Option Value)} {oc_11 kV_11 dc_11 pm_11 cd_11 ct_11 : Value}
    {f_12 : Addr} {od_12 an_12 : Option Addr} {sl_12 : Array (Option Value)} {oc_12 kV_12 dc_12 pm_12 cd_12 ct_12 : Value}
    {f_13 : Addr} {od_13 an_13 : Option Addr} {sl_13 : Array (Option Value)} {oc_13 kV_13 dc_13 pm_13 cd_13 ct_13 : Value}
    {f_14 : Addr} {od_14 an_14 : Option Addr} {sl_14 : Array (Option Value)} {oc_14 kV_14 dc_14 pm_14 cd_14 ct_14 : Value}
    {f_15 : Addr} {od_15 an_15 : Option Addr} {sl_15 : Array (Option Value)} {oc_15 kV_15 dc_15 pm_15 cd_15 ct_15 : Value}
    {f_16 : Addr} {od_16 an_16 : Option Addr} {sl_16 : Array (Option Value)} {oc_16 kV_16 dc_16 pm_16 cd_16 ct_16 : Value}
    {f_17 : Addr} {od_17 an_17 : Option Addr} {sl_17 : Array (Option Value)} {oc_17 kV_17 dc_17 pm_17 cd_17 ct_17 : Value}
    {f_18 : Addr} {od_18 an_18 : Option Addr} {sl_18 : Array (Option Value)} {oc_18 kV_18 dc_18 pm_18 cd_18 ct_18 : Value}
    {f_19 : Addr} {od_19 an_19 : Option Addr} {sl_19 : Array (Option Value)} {oc_19 kV_19 dc_19 pm_19 cd_19 ct_19 : Value}
    {f_20 : Addr} {od_20 an_20 : Option Addr} {sl_20 : Array (Option Value)} {oc_20 kV_20 dc_20 pm_20 cd_20 ct_20 : Value}
    {f_21 : Addr} {od_21 an_21 : Option Addr} {sl_21 : Array (Option Value)} {oc_21 kV_21 dc_21 pm_21 cd_21 ct_21 : Value}
    {f_22 : Addr} {od_22 an_22 : Option Addr} {sl_22 : Array (Option Value)} {oc_22 kV_22 dc_22 pm_22 cd_22 ct_22 : Value}
    {f_23 : Addr} {od_23 an_23 : Option Addr} {sl_23 : Array (Option Value)} {oc_23 kV_23 dc_23 pm_23 cd_23 ct_23 : Value}
    {f_24 : Addr} {od_24 an_24 : Option Addr} {sl_24 : Array (Option Value)} {oc_24 kV_24 dc_24 pm_24 cd_24 ct_24 : Value}
    {f_25 : Addr} {od_25 an_25 : Option Addr} {sl_25 : Array (Option Value)} {oc_25 kV_25 dc_25 pm_25 cd_25 ct_25 : Value}
    {f_26 : Addr} {od_26 an_26 : Option Addr} {sl_26 : Array (Option Value)} {oc_26 kV_26 dc_26 pm_26 cd_26 ct_26 : Value}
    {f_27 : Addr} {od_27 an_27 : Option Addr} {sl_27 : Array (Option Value)} {oc_27 kV_27 dc_27 pm_27 cd_27 ct_27 : Value}
    {f_28 : Addr} {od_28 an_28 : Option Addr} {sl_28 : Array (Option Value)} {oc_28 kV_28 dc_28 pm_28 cd_28 ct_28 : Value}
    {f_29 : Addr} {od_29 an_29 : Option Addr} {sl_29 : Array (Option Value)} {oc_29 kV_29 dc_29 pm_29 cd_29 ct_29 : Value}
    {f_30 : Addr} {od_30 an_30 : Option Addr} {sl_30 : Array (Option Value)} {oc_30 kV_30 dc_30 pm_30 cd_30 ct_30 : Value}
    {f_31 : Addr} {od_31 an_31 : Option Addr} {sl_31 : Array (Option Value)} {oc_31 kV_31 dc_31 pm_31 cd_31 ct_31 : Value}
    {f_32 : Addr} {od_32 an_32 : Option Addr} {sl_32 : Array (Option Value)} {oc_32 kV_32 dc_32 pm_32 cd_32 ct_32 : Value}
    {f_33 : Addr} {od_33 an_33 : Option Addr} {sl_33 : Array (Option Value)} {oc_33 kV_33 dc_33 pm_33 cd_33 ct_33 : Value}
    {f_34 : Addr} {od_34 an_34 : Option Addr} {sl_34 : Array (Option Value)} {oc_34 kV_34 dc_34 pm_34 ct_34 : Value} {cc_34 TP_34 : Addr} {occ_34 : Value} {odd_34 : Option Addr} {vs_34 : Array Value} {slc_34 : Array (Option Value)}
    {t_FIGURES : Tok}
    {t_MOST_FAR : Tok}
    {t_MOST_FIGURES : Tok}
    {t_MOST_LEGS : Tok}
    {t_MOST_LONG : Tok}
    {t_WAYS_paths_0 : Tok}
    {t_WAYS_paths_1 : Tok}
    {t_WAYS_paths_2 : Tok}
    {t_WAYS_paths_3 : Tok}
    {p_WAYS_paths : Addr} {n_WAYS_paths : Nat} {sl_WAYS_paths : Array (Option Value)}
    {t_WAYS_texts_0 : Tok}
    {t_WAYS_texts_1 : Tok}
    {t_WAYS_texts_2 : Tok}
    {t_WAYS_texts_3 : Tok}
    {p_WAYS_texts : Addr} {n_WAYS_texts : Nat} {sl_WAYS_texts : Array (Option Value)}
    {C_StoneError : Addr}
    {C_NoText F_NoText : Addr} {od_NoText an_NoText : Option Addr} {sl_NoText : Array (Option Value)} {oc_NoText kV_NoText dc_NoText pm_NoText cd_NoText ct_NoText : Value}
    {xnm_NoText xqn_NoText : Str} {xN_NoText : Addr} {xbs_NoText xbm_NoText xsub_NoText : List Value} {xsn_NoText : List Str} {xab_NoText : Bool} {xcol_NoText : Option Bool} {xdd_NoText : Option Addr} {xk0_NoText xk1_NoText xk2_NoText xk3_NoText xk5_NoText : Option Value}
    {C_NoPath : Addr}
    (o_Words : PySem.W.nsIn K mainGlobals "Words" = some (some (.ref C_Words)))
    (o1_Words : PySem.W.plainGet K C_Words Str.empty = true)
    (o2_Words : PySem.W.hasDictIn K C_Words = true)
    (o3_Words : PySem.W.plainOver K C_Words = true)
    (o4_Words : PySem.W.findIn K (.ref C_Words) "__setattr__" = some (some (.builtin "object.__setattr__")))
    (o5_Words : PySem.W.makesIn K C_Words = true)
    (o6_Words : PySem.W.keepIn K (.ref C_Words) = true)
    (o7_Words_here : PySem.W.findIn K (.ref C_Words) "here" = some none)
    (o7_Words_words : PySem.W.findIn K (.ref C_Words) "words" = some none)
    (a_0 : PySem.W.nsIn K mainGlobals "_law_pen_of" = some (some (.ref f_0)))
    (l_0 : K.lookup f_0 = some ⟨oc_0, od_0, .func (PySem.W.fnOf "_law_pen_of" "_law_pen_of" (defArgs s__law_pen_of) (defBody s__law_pen_of) (defScope s__law_pen_of) .none kV_0 dc_0 pm_0 an_0 cd_0 ct_0), sl_0⟩)
    (c_0 : PySem.W.codeIn K cd_0 "_law_pen_of" = true)
    (k_0 : PySem.W.keepIn K (.ref f_0) = true)
    (a_1 : PySem.W.nsIn K mainGlobals "_law_next" = some (some (.ref f_1)))
    (l_1 : K.lookup f_1 = some ⟨oc_1, od_1, .func (PySem.W.fnOf "_law_next" "_law_next" (defArgs s__law_next) (defBody s__law_next) (defScope s__law_next) .none kV_1 dc_1 pm_1 an_1 cd_1 ct_1), sl_1⟩)
    (c_1 : PySem.W.codeIn K cd_1 "_law_next" = true)
    (k_1 : PySem.W.keepIn K (.ref f_1) = true)
    (a_2 : PySem.W.nsIn K mainGlobals "_law_draw" = some (some (.ref f_2)))
    (l_2 : K.lookup f_2 = some ⟨oc_2, od_2, .func (PySem.W.fnOf "_law_draw" "_law_draw" (defArgs s__law_draw) (defBody s__law_draw) (defScope s__law_draw) .none kV_2 dc_2 pm_2 an_2 cd_2 ct_2), sl_2⟩)
    (c_2 : PySem.W.codeIn K cd_2 "_law_draw" = true)
    (k_2 : PySem.W.keepIn K (.ref f_2) = true)
    (a_3 : PySem.W.nsIn K mainGlobals "_law_path" = some (some (.ref f_3)))
    (l_3 : K.lookup f_3 = some ⟨oc_3, od_3, .func (PySem.W.fnOf "_law_path" "_law_path" (defArgs s__law_path) (defBody s__law_path) (defScope s__law_path) .none kV_3 dc_3 pm_3 an_3 cd_3 ct_3), sl_3⟩)
    (c_3 : PySem.W.codeIn K cd_3 "_law_path" = true)
    (k_3 : PySem.W.keepIn K (.ref f_3) = true)
    (a_4 : PySem.W.nsIn K mainGlobals "_law_path_text" = some (some (.ref f_4)))
    (l_4 : K.lookup f_4 = some ⟨oc_4, od_4, .func (PySem.W.fnOf "_law_path_text" "_law_path_text" (defArgs s__law_path_text) (defBody s__law_path_text) (defScope s__law_path_text) .none kV_4 dc_4 pm_4 an_4 cd_4 ct_4), sl_4⟩)
    (c_4 : PySem.W.codeIn K cd_4 "_law_path_text" = true)
    (k_4 : PySem.W.keepIn K (.ref f_4) = true)
    (a_5 : PySem.W.nsIn K mainGlobals "_law_cell_at" = some (some (.ref f_5)))
    (l_5 : K.lookup f_5 = some ⟨oc_5, od_5, .func (PySem.W.fnOf "_law_cell_at" "_law_cell_at" (defArgs s__law_cell_at) (defBody s__law_cell_at) (defScope s__law_cell_at) .none kV_5 dc_5 pm_5 an_5 cd_5 ct_5), sl_5⟩)
    (c_5 : PySem.W.codeIn K cd_5 "_law_cell_at" = true)
    (k_5 : PySem.W.keepIn K (.ref f_5) = true)
    (a_6 : PySem.W.nsIn K mainGlobals "_law_odd" = some (some (.ref f_6)))
    (l_6 : K.lookup f_6 = some ⟨oc_6, od_6, .func (PySem.W.fnOf "_law_odd" "_law_odd" (defArgs s__law_odd) (defBody s__law_odd) (defScope s__law_odd) .none kV_6 dc_6 pm_6 an_6 cd_6 ct_6), sl_6⟩)
    (c_6 : PySem.W.codeIn K cd_6 "_law_odd" = true)
    (k_6 : PySem.W.keepIn K (.ref f_6) = true)
    (a_7 : PySem.W.nsIn K mainGlobals "_law_flags" = some (some (.ref f_7)))
    (l_7 : K.lookup f_7 = some ⟨oc_7, od_7, .func (PySem.W.fnOf "_law_flags" "_law_flags" (defArgs s__law_flags) (defBody s__law_flags) (defScope s__law_flags) .none kV_7 dc_7 pm_7 an_7 cd_7 ct_7), sl_7⟩)
    (c_7 : PySem.W.codeIn K cd_7 "_law_flags" = true)
    (k_7 : PySem.W.keepIn K (.ref f_7) = true)
    (a_8 : PySem.W.nsIn K mainGlobals "_law_said" = some (some (.ref f_8)))
    (l_8 : K.lookup f_8 = some ⟨oc_8, od_8, .func (PySem.W.fnOf "_law_said" "_law_said" (defArgs s__law_said) (defBody s__law_said) (defScope s__law_said) .none kV_8 dc_8 pm_8 an_8 cd_8 ct_8), sl_8⟩)
    (c_8 : PySem.W.codeIn K cd_8 "_law_said" = true)
    (k_8 : PySem.W.keepIn K (.ref f_8) = true)
    (a_9 : PySem.W.nsIn K mainGlobals "is_whole" = some (some (.ref f_9)))
    (l_9 : K.lookup f_9 = some ⟨oc_9, od_9, .func (PySem.W.fnOf "is_whole" "is_whole" (defArgs s_is_whole) (defBody s_is_whole) (defScope s_is_whole) .none kV_9 dc_9 pm_9 an_9 cd_9 ct_9), sl_9⟩)
    (c_9 : PySem.W.codeIn K cd_9 "is_whole" = true)
    (k_9 : PySem.W.keepIn K (.ref f_9) = true)
    (a_10 : PySem.W.nsIn K mainGlobals "is_from_to" = some (some (.ref f_10)))
    (l_10 : K.lookup f_10 = some ⟨oc_10, od_10, .func (PySem.W.fnOf "is_from_to" "is_from_to" (defArgs s_is_from_to) (defBody s_is_from_to) (defScope s_is_from_to) .none kV_10 dc_10 pm_10 an_10 cd_10 ct_10), sl_10⟩)
    (c_10 : PySem.W.codeIn K cd_10 "is_from_to" = true)
    (k_10 : PySem.W.keepIn K (.ref f_10) = true)
    (a_11 : PySem.W.nsIn K mainGlobals "quarter" = some (some (.ref f_11)))
    (l_11 : K.lookup f_11 = some ⟨oc_11, od_11, .func (PySem.W.fnOf "quarter" "quarter" (defArgs s_quarter) (defBody s_quarter) (defScope s_quarter) .none kV_11 dc_11 pm_11 an_11 cd_11 ct_11), sl_11⟩)
    (c_11 : PySem.W.codeIn K cd_11 "quarter" = true)
    (k_11 : PySem.W.keepIn K (.ref f_11) = true)
    (a_12 : PySem.W.nsIn K mainGlobals "is_leg" = some (some (.ref f_12)))
    (l_12 : K.lookup f_12 = some ⟨oc_12, od_12, .func (PySem.W.fnOf "is_leg" "is_leg" (defArgs s_is_leg) (defBody s_is_leg) (defScope s_is_leg) .none kV_12 dc_12 pm_12 an_12 cd_12 ct_12), sl_12⟩)
    (c_12 : PySem.W.codeIn K cd_12 "is_leg" = true)
    (k_12 : PySem.W.keepIn K (.ref f_12) = true)
    (a_13 : PySem.W.nsIn K mainGlobals "is_path" = some (some (.ref f_13)))
    (l_13 : K.lookup f_13 = some ⟨oc_13, od_13, .func (PySem.W.fnOf "is_path" "is_path" (defArgs s_is_path) (defBody s_is_path) (defScope s_is_path) .none kV_13 dc_13 pm_13 an_13 cd_13 ct_13), sl_13⟩)
    (c_13 : PySem.W.codeIn K cd_13 "is_path" = true)
    (k_13 : PySem.W.keepIn K (.ref f_13) = true)
    (a_14 : PySem.W.nsIn K mainGlobals "need_path" = some (some (.ref f_14)))
    (l_14 : K.lookup f_14 = some ⟨oc_14, od_14, .func (PySem.W.fnOf "need_path" "need_path" (defArgs s_need_path) (defBody s_need_path) (defScope s_need_path) .none kV_14 dc_14 pm_14 an_14 cd_14 ct_14), sl_14⟩)
    (c_14 : PySem.W.codeIn K cd_14 "need_path" = true)
    (k_14 : PySem.W.keepIn K (.ref f_14) = true)
    (a_15 : PySem.W.nsIn K mainGlobals "path_words" = some (some (.ref f_15)))
    (l_15 : K.lookup f_15 = some ⟨oc_15, od_15, .func (PySem.W.fnOf "path_words" "path_words" (defArgs s_path_words) (defBody s_path_words) (defScope s_path_words) .none kV_15 dc_15 pm_15 an_15 cd_15 ct_15), sl_15⟩)
    (c_15 : PySem.W.codeIn K cd_15 "path_words" = true)
    (k_15 : PySem.W.keepIn K (.ref f_15) = true)
    (a_16 : PySem.W.nsIn K mainGlobals "path_shown" = some (some (.ref f_16)))
    (l_16 : K.lookup f_16 = some ⟨oc_16, od_16, .func (PySem.W.fnOf "path_shown" "path_shown" (defArgs s_path_shown) (defBody s_path_shown) (defScope s_path_shown) .none kV_16 dc_16 pm_16 an_16 cd_16 ct_16), sl_16⟩)
    (c_16 : PySem.W.codeIn K cd_16 "path_shown" = true)
    (k_16 : PySem.W.keepIn K (.ref f_16) = true)
    (a_17 : PySem.W.findIn K (.ref C_Words) "__init__" = some (some (.ref f_17)))
    (n_17 : PySem.W.isFn K (.ref f_17) = true)
    (l_17 : K.lookup f_17 = some ⟨oc_17, od_17, .func (PySem.W.fnOf "__init__" "Words.__init__" (defArgs s_Words___init__) (defBody s_Words___init__) (defScope s_Words___init__) .none kV_17 dc_17 pm_17 an_17 cd_17 ct_17), sl_17⟩)
    (c_17 : PySem.W.codeIn K cd_17 "Words.__init__" = true)
    (k_17 : PySem.W.keepIn K (.ref f_17) = true)
    (a_18 : PySem.W.findIn K (.ref C_Words) "is_over" = some (some (.ref f_18)))
    (n_18 : PySem.W.isFn K (.ref f_18) = true)
    (l_18 : K.lookup f_18 = some ⟨oc_18, od_18, .func (PySem.W.fnOf "is_over" "Words.is_over" (defArgs s_Words_is_over) (defBody s_Words_is_over) (defScope s_Words_is_over) .none kV_18 dc_18 pm_18 an_18 cd_18 ct_18), sl_18⟩)
    (c_18 : PySem.W.codeIn K cd_18 "Words.is_over" = true)
    (k_18 : PySem.W.keepIn K (.ref f_18) = true)
    (a_19 : PySem.W.findIn K (.ref C_Words) "is_next" = some (some (.ref f_19)))
    (n_19 : PySem.W.isFn K (.ref f_19) = true)
    (l_19 : K.lookup f_19 = some ⟨oc_19, od_19, .func (PySem.W.fnOf "is_next" "Words.is_next" (defArgs s_Words_is_next) (defBody s_Words_is_next) (defScope s_Words_is_next) .none kV_19 dc_19 pm_19 an_19 cd_19 ct_19), sl_19⟩)
    (c_19 : PySem.W.codeIn K cd_19 "Words.is_next" = true)
    (k_19 : PySem.W.keepIn K (.ref f_19) = true)
    (a_20 : PySem.W.nsIn K mainGlobals "number_in" = some (some (.ref f_20)))
    (l_20 : K.lookup f_20 = some ⟨oc_20, od_20, .func (PySem.W.fnOf "number_in" "number_in" (defArgs s_number_in) (defBody s_number_in) (defScope s_number_in) .none kV_20 dc_20 pm_20 an_20 cd_20 ct_20), sl_20⟩)
    (c_20 : PySem.W.codeIn K cd_20 "number_in" = true)
    (k_20 : PySem.W.keepIn K (.ref f_20) = true)
    (a_21 : PySem.W.findIn K (.ref C_Words) "must" = some (some (.ref f_21)))
    (n_21 : PySem.W.isFn K (.ref f_21) = true)
    (l_21 : K.lookup f_21 = some ⟨oc_21, od_21, .func (PySem.W.fnOf "must" "Words.must" (defArgs s_Words_must) (defBody s_Words_must) (defScope s_Words_must) .none kV_21 dc_21 pm_21 an_21 cd_21 ct_21), sl_21⟩)
    (c_21 : PySem.W.codeIn K cd_21 "Words.must" = true)
    (k_21 : PySem.W.keepIn K (.ref f_21) = true)
    (a_22 : PySem.W.findIn K (.ref C_Words) "take" = some (some (.ref f_22)))
    (n_22 : PySem.W.isFn K (.ref f_22) = true)
    (l_22 : K.lookup f_22 = some ⟨oc_22, od_22, .func (PySem.W.fnOf "take" "Words.take" (defArgs s_Words_take) (defBody s_Words_take) (defScope s_Words_take) .none kV_22 dc_22 pm_22 an_22 cd_22 ct_22), sl_22⟩)
    (c_22 : PySem.W.codeIn K cd_22 "Words.take" = true)
    (k_22 : PySem.W.keepIn K (.ref f_22) = true)
    (a_23 : PySem.W.findIn K (.ref C_Words) "read_number" = some (some (.ref f_23)))
    (n_23 : PySem.W.isFn K (.ref f_23) = true)
    (l_23 : K.lookup f_23 = some ⟨oc_23, od_23, .func (PySem.W.fnOf "read_number" "Words.read_number" (defArgs s_Words_read_number) (defBody s_Words_read_number) (defScope s_Words_read_number) .none kV_23 dc_23 pm_23 an_23 cd_23 ct_23), sl_23⟩)
    (c_23 : PySem.W.codeIn K cd_23 "Words.read_number" = true)
    (k_23 : PySem.W.keepIn K (.ref f_23) = true)
    (a_24 : PySem.W.findIn K (.ref C_Words) "read_sign" = some (some (.ref f_24)))
    (n_24 : PySem.W.isFn K (.ref f_24) = true)
    (l_24 : K.lookup f_24 = some ⟨oc_24, od_24, .func (PySem.W.fnOf "read_sign" "Words.read_sign" (defArgs s_Words_read_sign) (defBody s_Words_read_sign) (defScope s_Words_read_sign) .none kV_24 dc_24 pm_24 an_24 cd_24 ct_24), sl_24⟩)
    (c_24 : PySem.W.codeIn K cd_24 "Words.read_sign" = true)
    (k_24 : PySem.W.keepIn K (.ref f_24) = true)
    (a_25 : PySem.W.findIn K (.ref C_Words) "read_path" = some (some (.ref f_25)))
    (n_25 : PySem.W.isFn K (.ref f_25) = true)
    (l_25 : K.lookup f_25 = some ⟨oc_25, od_25, .func (PySem.W.fnOf "read_path" "Words.read_path" (defArgs s_Words_read_path) (defBody s_Words_read_path) (defScope s_Words_read_path) .none kV_25 dc_25 pm_25 an_25 cd_25 ct_25), sl_25⟩)
    (c_25 : PySem.W.codeIn K cd_25 "Words.read_path" = true)
    (k_25 : PySem.W.keepIn K (.ref f_25) = true)
    (a_26 : PySem.W.findIn K (.ref C_Words) "end" = some (some (.ref f_26)))
    (n_26 : PySem.W.isFn K (.ref f_26) = true)
    (l_26 : K.lookup f_26 = some ⟨oc_26, od_26, .func (PySem.W.fnOf "end" "Words.end" (defArgs s_Words_end) (defBody s_Words_end) (defScope s_Words_end) .none kV_26 dc_26 pm_26 an_26 cd_26 ct_26), sl_26⟩)
    (c_26 : PySem.W.codeIn K cd_26 "Words.end" = true)
    (k_26 : PySem.W.keepIn K (.ref f_26) = true)
    (a_27 : PySem.W.nsIn K mainGlobals "path_read" = some (some (.ref f_27)))
    (l_27 : K.lookup f_27 = some ⟨oc_27, od_27, .func (PySem.W.fnOf "path_read" "path_read" (defArgs s_path_read) (defBody s_path_read) (defScope s_path_read) .none kV_27 dc_27 pm_27 an_27 cd_27 ct_27), sl_27⟩)
    (c_27 : PySem.W.codeIn K cd_27 "path_read" = true)
    (k_27 : PySem.W.keepIn K (.ref f_27) = true)
    (a_28 : PySem.W.nsIn K mainGlobals "_law_sign" = some (some (.ref f_28)))
    (l_28 : K.lookup f_28 = some ⟨oc_28, od_28, .func (PySem.W.fnOf "_law_sign" "_law_sign" (defArgs s__law_sign) (defBody s__law_sign) (defScope s__law_sign) .none kV_28 dc_28 pm_28 an_28 cd_28 ct_28), sl_28⟩)
    (c_28 : PySem.W.codeIn K cd_28 "_law_sign" = true)
    (k_28 : PySem.W.keepIn K (.ref f_28) = true)
    (a_29 : PySem.W.nsIn K mainGlobals "_law_bent" = some (some (.ref f_29)))
    (l_29 : K.lookup f_29 = some ⟨oc_29, od_29, .func (PySem.W.fnOf "_law_bent" "_law_bent" (defArgs s__law_bent) (defBody s__law_bent) (defScope s__law_bent) .none kV_29 dc_29 pm_29 an_29 cd_29 ct_29), sl_29⟩)
    (c_29 : PySem.W.codeIn K cd_29 "_law_bent" = true)
    (k_29 : PySem.W.keepIn K (.ref f_29) = true)
    (a_30 : PySem.W.nsIn K mainGlobals "_law_number" = some (some (.ref f_30)))
    (l_30 : K.lookup f_30 = some ⟨oc_30, od_30, .func (PySem.W.fnOf "_law_number" "_law_number" (defArgs s__law_number) (defBody s__law_number) (defScope s__law_number) .none kV_30 dc_30 pm_30 an_30 cd_30 ct_30), sl_30⟩)
    (c_30 : PySem.W.codeIn K cd_30 "_law_number" = true)
    (k_30 : PySem.W.keepIn K (.ref f_30) = true)
    (a_31 : PySem.W.nsIn K mainGlobals "_law_path_form" = some (some (.ref f_31)))
    (l_31 : K.lookup f_31 = some ⟨oc_31, od_31, .func (PySem.W.fnOf "_law_path_form" "_law_path_form" (defArgs s__law_path_form) (defBody s__law_path_form) (defScope s__law_path_form) .none kV_31 dc_31 pm_31 an_31 cd_31 ct_31), sl_31⟩)
    (c_31 : PySem.W.codeIn K cd_31 "_law_path_form" = true)
    (k_31 : PySem.W.keepIn K (.ref f_31) = true)
    (a_32 : PySem.W.nsIn K mainGlobals "_law_is_path" = some (some (.ref f_32)))
    (l_32 : K.lookup f_32 = some ⟨oc_32, od_32, .func (PySem.W.fnOf "_law_is_path" "_law_is_path" (defArgs s__law_is_path) (defBody s__law_is_path) (defScope s__law_is_path) .none kV_32 dc_32 pm_32 an_32 cd_32 ct_32), sl_32⟩)
    (c_32 : PySem.W.codeIn K cd_32 "_law_is_path" = true)
    (k_32 : PySem.W.keepIn K (.ref f_32) = true)
    (a_33 : PySem.W.nsIn K mainGlobals "_law_due" = some (some (.ref f_33)))
    (l_33 : K.lookup f_33 = some ⟨oc_33, od_33, .func (PySem.W.fnOf "_law_due" "_law_due" (defArgs s__law_due) (defBody s__law_due) (defScope s__law_due) .none kV_33 dc_33 pm_33 an_33 cd_33 ct_33), sl_33⟩)
    (c_33 : PySem.W.codeIn K cd_33 "_law_due" = true)
    (k_33 : PySem.W.keepIn K (.ref f_33) = true)
    (a_34 : PySem.W.nsIn K mainGlobals "law" = some (some (.ref f_34)))
    (l_34 : K.lookup f_34 = some ⟨oc_34, od_34, .func (PySem.W.fnOf "law" "law" (defArgs s_law) (defBody s_law) (defScope s_law) .none kV_34 dc_34 pm_34 an_34 (.ref cc_34) ct_34), sl_34⟩)
    (c_34 : PySem.W.codeIn K (.ref cc_34) "law" = true)
    (k_34 : PySem.W.keepIn K (.ref f_34) = true)
    (lu_34 : K.lookup cc_34 = some ⟨occ_34, odd_34, .fields vs_34, slc_34⟩)
    (lp_34 : (vs_34[11]? : Option Value) = some (.ref TP_34))
    (lt_34 : PySem.W.tabIn K "law" = some (cc_34, TP_34))
    (lk_34 : K.lookup TP_34 = none)
    (lh_34 : PySem.W.codeHdIn K cc_34 TP_34 = true)
    (lm_34 : TP_34 ∈ ts)
    (z_ArithmeticError : PySem.W.nsIn K mainGlobals "ArithmeticError" = some none)
    (z_LookupError : PySem.W.nsIn K mainGlobals "LookupError" = some none)
    (z_RuntimeError : PySem.W.nsIn K mainGlobals "RuntimeError" = some none)
    (z_TypeError : PySem.W.nsIn K mainGlobals "TypeError" = some none)
    (z_ValueError : PySem.W.nsIn K mainGlobals "ValueError" = some none)
    (z_all : PySem.W.nsIn K mainGlobals "all" = some none)
    (z_bool : PySem.W.nsIn K mainGlobals "bool" = some none)
    (z_int : PySem.W.nsIn K mainGlobals "int" = some none)
    (z_isinstance : PySem.W.nsIn K mainGlobals "isinstance" = some none)
    (z_len : PySem.W.nsIn K mainGlobals "len" = some none)
    (z_list : PySem.W.nsIn K mainGlobals "list" = some none)
    (z_max : PySem.W.nsIn K mainGlobals "max" = some none)
    (z_min : PySem.W.nsIn K mainGlobals "min" = some none)
    (z_range : PySem.W.nsIn K mainGlobals "range" = some none)
    (z_repr : PySem.W.nsIn K mainGlobals "repr" = some none)
    (z_str : PySem.W.nsIn K mainGlobals "str" = some none)
    (z_tuple : PySem.W.nsIn K mainGlobals "tuple" = some none)
    (z_zip : PySem.W.nsIn K mainGlobals "zip" = some none)
    (a_FIGURES : PySem.W.nsIn K mainGlobals "FIGURES" = some (some (.str "0123456789" t_FIGURES)))
    (a_MOST_FAR : PySem.W.nsIn K mainGlobals "MOST_FAR" = some (some (.int 1000 t_MOST_FAR)))
    (a_MOST_FIGURES : PySem.W.nsIn K mainGlobals "MOST_FIGURES" = some (some (.int 30 t_MOST_FIGURES)))
    (a_MOST_LEGS : PySem.W.nsIn K mainGlobals "MOST_LEGS" = some (some (.int 6 t_MOST_LEGS)))
    (a_MOST_LONG : PySem.W.nsIn K mainGlobals "MOST_LONG" = some (some (.int 60 t_MOST_LONG)))
    (a_WAYS_paths : PySem.W.nsIn K mainGlobals "WAYS_paths" = some (some (.ref p_WAYS_paths)))
    (l_WAYS_paths : K.lookup p_WAYS_paths = some ⟨.type "tuple", none, .seq #[(.str "east" t_WAYS_paths_0), (.str "north" t_WAYS_paths_1), (.str "west" t_WAYS_paths_2), (.str "south" t_WAYS_paths_3)] n_WAYS_paths, sl_WAYS_paths⟩)
    (a_WAYS_texts : PySem.W.nsIn K mainGlobals "WAYS_texts" = some (some (.ref p_WAYS_texts)))
    (l_WAYS_texts : K.lookup p_WAYS_texts = some ⟨.type "tuple", none, .seq #[(.str "east" t_WAYS_texts_0), (.str "north" t_WAYS_texts_1), (.str "west" t_WAYS_texts_2), (.str "south" t_WAYS_texts_3)] n_WAYS_texts, sl_WAYS_texts⟩)
    (a_StoneError : PySem.W.nsIn K mainGlobals "StoneError" = some (some (.ref C_StoneError)))
    (b_StoneError : iniB K C_StoneError = true)
    (a_NoText : PySem.W.nsIn K mainGlobals "NoText" = some (some (.ref C_NoText)))
    (b_NoText : xcB K "StoneError" ysX fldX "NoText" C_NoText = true)
    (l_NoText : K.lookup C_NoText = some ⟨.type "type", xdd_NoText, .cls ⟨xnm_NoText, xbs_NoText, .ref C_NoText :: xbm_NoText, xN_NoText, xqn_NoText, true, xsn_NoText, xsub_NoText, xab_NoText, xcol_NoText, false⟩, #[xk0_NoText, xk1_NoText, xk2_NoText, xk3_NoText, some (.builtin "ValueError.__new__"), xk5_NoText]⟩)
    (x_NoText : PySem.HandSPX.refsVE xbm_NoText = true)
    (s_NoText : PySem.W.findIn K (.ref C_NoText) "__setattr__" = some (some (.builtin "object.__setattr__")))
    (u_NoText : PySem.W.subIn K (.ref C_NoText) (.type "BaseException") = some true)
    (y_NoText : PySem.W.typeIn K (.ref C_NoText) = some (.type "type"))
    (k_NoText : PySem.W.keepIn K (.ref C_NoText) = true)
    (fi_NoText : PySem.W.findIn K (.ref C_NoText) "__init__" = some (some (.ref F_NoText)))
    (fl_NoText : K.lookup F_NoText = some ⟨oc_NoText, od_NoText, .func (PySem.W.fnOf "__init__" "NoText.__init__" (defArgs (clsM (topS 28))) (defBody (clsM (topS 28))) (defScope (clsM (topS 28))) .none kV_NoText dc_NoText pm_NoText an_NoText cd_NoText ct_NoText), sl_NoText⟩)
    (ft_NoText : PySem.W.typeIn K (.ref F_NoText) = some (.type "function"))
    (fc_NoText : PySem.W.codeIn K cd_NoText "NoText.__init__" = true)
    (a_NoPath : PySem.W.nsIn K mainGlobals "NoPath" = some (some (.ref C_NoPath)))
    (x_NoPath : PySem.W.excIn K C_NoPath bmV "ValueError.__new__" = true)
    (b_NoPath : xcB K "StoneError" ysX fldX "NoPath" C_NoPath = true) :
    ∃ (FA : FnA) (fd : FuncData) (TT : Tbl) (cs : List (Addr × Addr)), (∀ p ∈ TT.T, ∃ c, (c, p.1) ∈ cs) ∧ (∀ p ∈ cs, p.2 ∈ ts ∧ K.lookup p.2 = none ∧ PySem.W.codeHdIn K p.1 p.2 = true) ∧ (∀ (s : Shared) (v : Value), BindsTo s fd ⟨[v], []⟩ [("_law_script", v)]) ∧ ∀ base : Heap, K.In base → base.Ns mainGlobals mg → SysM base → (∀ p ∈ cs, LamX.TabB base mg p.1 p.2) → @Fnk _ TT ⟨P, w, K, mg, base⟩ true 9 fa fd ["_law_script"] (@m_law FA) := by
  have e := hfa.symm.trans (PySem.W.mg_of X G a_34)
  cases e
  refine ⟨⟨fun z : Str => if z = ("Words" : Str) then C_Words else 0⟩, PySem.W.fnOf "law" "law" (defArgs s_law) (defBody s_law) (defScope s_law) .none kV_34 dc_34 pm_34 an_34 (.ref cc_34) ct_34, ⟨[(TP_34, "law.<locals>.<lambda>")]⟩, [(cc_34, TP_34)], ?_, ?_, fun s v => .of_eq rfl, fun base _ _ SMb TB => ?_⟩
  · intro p hp; simp only [List.mem_cons, List.not_mem_nil, or_false] at hp; rcases hp with rfl
    · exact ⟨cc_34, by simp⟩
  · intro p hp; simp only [List.mem_cons, List.not_mem_nil, or_false] at hp; rcases hp with rfl
    · exact ⟨lm_34, lk_34, lh_34⟩
  letI : Tbl := ⟨[(TP_34, "law.<locals>.<lambda>")]⟩
  letI : FnA := ⟨fun z : Str => if z = ("Words" : Str) then C_Words else 0⟩
  have T : Hs ⟨P, w, K, mg, base⟩ := ⟨SMb,
    PySem.W.mg_none_of X G z_ArithmeticError,
    PySem.W.mg_none_of X G z_LookupError,
    PySem.W.mg_none_of X G z_RuntimeError,
    PySem.W.mg_none_of X G z_TypeError,
    PySem.W.mg_none_of X G z_ValueError,
    PySem.W.mg_none_of X G z_all,
    PySem.W.mg_none_of X G z_bool,
    PySem.W.mg_none_of X G z_int,
    PySem.W.mg_none_of X G z_isinstance,
    PySem.W.mg_none_of X G z_len,
    PySem.W.mg_none_of X G z_list,
    PySem.W.mg_none_of X G z_max,
    PySem.W.mg_none_of X G z_min,
    PySem.W.mg_none_of X G z_range,
    PySem.W.mg_none_of X G z_repr,
    PySem.W.mg_none_of X G z_str,
    PySem.W.mg_none_of X G z_tuple,
    PySem.W.mg_none_of X G z_zip,
    gw_of X G a_FIGURES wr_str,
    gw_of X G a_MOST_FAR wr_int,
    gw_of X G a_MOST_FIGURES wr_int,
    gw_of X G a_MOST_LEGS wr_int,
    gw_of X G a_MOST_LONG wr_int,
    gw_of X G a_WAYS_paths (wr_tup (us := [(.str "east" t_WAYS_paths_0), (.str "north" t_WAYS_paths_1), (.str "west" t_WAYS_paths_2), (.str "south" t_WAYS_paths_3)]) l_WAYS_paths (Nat.le_of_ble_eq_true rfl) (wrs_cons wr_str (wrs_cons wr_str (wrs_cons wr_str (wrs_cons wr_str wrs_nil)))) (List.Mem.head _)),
    gw_of X G a_WAYS_texts (wr_tup (us := [(.str "east" t_WAYS_texts_0), (.str "north" t_WAYS_texts_1), (.str "west" t_WAYS_texts_2), (.str "south" t_WAYS_texts_3)]) l_WAYS_texts (Nat.le_of_ble_eq_true rfl) (wrs_cons wr_str (wrs_cons wr_str (wrs_cons wr_str (wrs_cons wr_str wrs_nil)))) (List.Mem.head _)),
    gix_of (us := [.str "east" t_WAYS_paths_0, .str "north" t_WAYS_paths_1, .str "west" t_WAYS_paths_2, .str "south" t_WAYS_paths_3]) X G a_WAYS_paths l_WAYS_paths (Nat.le_of_ble_eq_true rfl) (.cons ⟨_, rfl⟩ (.cons ⟨_, rfl⟩ (.cons ⟨_, rfl⟩ (.cons ⟨_, rfl⟩ .nil)))),
    (show mg "Words" = some (.ref (if ("Words" : Str) = ("Words" : Str) then C_Words else 0)) from by rw [if_pos rfl]; exact PySem.W.mg_of X G o_Words),
    (show Cls K (if ("Words" : Str) = ("Words" : Str) then C_Words else 0) from by rw [if_pos rfl]; exact ⟨o1_Words, o2_Words, o3_Words, o4_Words⟩),
    (show PySem.W.makesIn K (if ("Words" : Str) = ("Words" : Str) then C_Words else 0) = true from by rw [if_pos rfl]; exact o5_Words),
    (show PySem.W.keepIn K (.ref (if ("Words" : Str) = ("Words" : Str) then C_Words else 0)) = true from by rw [if_pos rfl]; exact o6_Words),
    (show NoAttr K (if ("Words" : Str) = ("Words" : Str) then C_Words else 0) "here" from by rw [if_pos rfl]; exact o7_Words_here),
    (show NoAttr K (if ("Words" : Str) = ("Words" : Str) then C_Words else 0) "words" from by rw [if_pos rfl]; exact o7_Words_words),
    ⟨_, PySem.W.mg_of X G a_StoneError⟩,
    ⟨_, PySem.W.mg_of X G a_NoText, ⟨⟨_, _, _, _, _, _, _, _, _, _, _, _, _, _, _, l_NoText, x_NoText⟩, s_NoText, u_NoText, y_NoText, k_NoText⟩, _, _, fi_NoText, ft_NoText, .all (fun us hl => match us, hl with | [_, _], _ => rfl), init_1 fl_NoText fc_NoText isc_NoText it_NoText (PySem.W.mg_of X G a_StoneError) (iniC_of b_StoneError) ⟨⟨_, _, _, _, _, _, _, _, _, _, _, _, _, _, _, l_NoText, x_NoText⟩, s_NoText, u_NoText, y_NoText, k_NoText⟩ (fun f hf => (xcA_of (M := ⟨P, w, K, mg, base⟩) (CSn := "StoneError") (ys := ysX) (fl := fldX) (xn := "NoText") X G a_NoText (fun z => absurd z (by decide)) b_NoText).nof f (by rw [nf_NoText]; exact hf)) rfl (fun env => ⟨_, rfl⟩)⟩,
    ⟨_, xcA_of X G a_NoPath (fun _ => x_NoPath) b_NoPath⟩,
    ⟨_, xcA_of X G a_NoText (fun z => absurd z (by decide)) b_NoText⟩⟩
  have LT_law : LamT ⟨P, w, K, mg, base⟩ "law" "law.<locals>.<lambda>" := lamT_of X G lt_34 (by decide) (by show _ ∈ ([(TP_34, "law.<locals>.<lambda>")] : List (Addr × Str)); simp) (by
    intro p hp e; have hp : p ∈ ([(TP_34, "law.<locals>.<lambda>")] : List (Addr × Str)) := hp; simp only [List.mem_cons, List.not_mem_nil, or_false] at hp; rcases hp with rfl
    · rfl
    ) (TB (cc_34, TP_34) (by simp))
  have h__law_pen_of := h__law_pen_of T  (top_mk (M := ⟨P, w, K, mg, base⟩) X G a_0 l_0 c_0 k_0 (fun us hl => match us, hl with | [_], _ => rfl))
  have h__law_next := h__law_next T  (top_mk (M := ⟨P, w, K, mg, base⟩) X G a_1 l_1 c_1 k_1 (fun us hl => match us, hl with | [_], _ => rfl))
  have h__law_draw := h__law_draw T h__law_next (top_mk (M := ⟨P, w, K, mg, base⟩) X G a_2 l_2 c_2 k_2 (fun us hl => match us, hl with | [_, _], _ => rfl))
  have h__law_path := h__law_path T h__law_draw (top_mk (M := ⟨P, w, K, mg, base⟩) X G a_3 l_3 c_3 k_3 (fun us hl => match us, hl with | [_, _], _ => rfl))
  have h__law_path_text := h__law_path_text T  (top_mk (M := ⟨P, w, K, mg, base⟩) X G a_4 l_4 c_4 k_4 (fun us hl => match us, hl with | [_], _ => rfl))
  have h__law_cell_at := h__law_cell_at T  (top_mk (M := ⟨P, w, K, mg, base⟩) X G a_5 l_5 c_5 k_5 (fun us hl => match us, hl with | [_, _], _ => rfl))
  have h__law_odd := h__law_odd T h__law_draw (top_mk (M := ⟨P, w, K, mg, base⟩) X G a_6 l_6 c_6 k_6 (fun us hl => match us, hl with | [_], _ => rfl))
  have h__law_flags := h__law_flags T  (top_mk (M := ⟨P, w, K, mg, base⟩) X G a_7 l_7 c_7 k_7 (fun us hl => match us, hl with | [_], _ => rfl))
  have S__law_said := h__law_said T h__law_flags (top_mk (M := ⟨P, w, K, mg, base⟩) X G a_8 l_8 c_8 k_8 (fun us hl => match us, hl with | [_], _ => rfl))
  have h_is_whole := h_is_whole T  (top_mk (M := ⟨P, w, K, mg, base⟩) X G a_9 l_9 c_9 k_9 (fun us hl => match us, hl with | [_], _ => rfl))
  have h_is_from_to := h_is_from_to T h_is_whole (top_mk (M := ⟨P, w, K, mg, base⟩) X G a_10 l_10 c_10 k_10 (fun us hl => match us, hl with | [_, _, _], _ => rfl))
  have h_quarter := h_quarter T  (top_mk (M := ⟨P, w, K, mg, base⟩) X G a_11 l_11 c_11 k_11 (fun us hl => match us, hl with | [_, _], _ => rfl))
  have h_is_leg := h_is_leg T h_is_from_to (top_mk (M := ⟨P, w, K, mg, base⟩) X G a_12 l_12 c_12 k_12 (fun us hl => match us, hl with | [_], _ => rfl))
  have h_is_path := h_is_path T h_is_from_to h_is_leg h_quarter (top_mk (M := ⟨P, w, K, mg, base⟩) X G a_13 l_13 c_13 k_13 (fun us hl => match us, hl with | [_], _ => rfl))
  have h_need_path := h_need_path T h_is_path (top_mk (M := ⟨P, w, K, mg, base⟩) X G a_14 l_14 c_14 k_14 (fun us hl => match us, hl with | [_], _ => rfl))
  have h_path_words := h_path_words T  (top_mk (M := ⟨P, w, K, mg, base⟩) X G a_15 l_15 c_15 k_15 (fun us hl => match us, hl with | [_], _ => rfl))
  have h_path_shown := h_path_shown T h_need_path h_path_words (top_mk (M := ⟨P, w, K, mg, base⟩) X G a_16 l_16 c_16 k_16 (fun us hl => match us, hl with | [_], _ => rfl))
  have h_Words___init__ := h_Words___init__ T  (show TopM ⟨P, w, K, mg, base⟩ (if ("Words" : Str) = ("Words" : Str) then C_Words else 0) "__init__" "Words.__init__" s_Words___init__ ["self", "text"] from by rw [if_pos rfl]; exact ⟨_, _, _, _, _, _, _, _, _, _, ⟨a_17, n_17, k_17⟩, l_17, c_17, .all (fun us hl => match us, hl with | [_, _], _ => rfl)⟩)
  have h_Words_is_over := h_Words_is_over T  (show TopM ⟨P, w, K, mg, base⟩ (if ("Words" : Str) = ("Words" : Str) then C_Words else 0) "is_over" "Words.is_over" s_Words_is_over ["self"] from by rw [if_pos rfl]; exact ⟨_, _, _, _, _, _, _, _, _, _, ⟨a_18, n_18, k_18⟩, l_18, c_18, .all (fun us hl => match us, hl with | [_], _ => rfl)⟩)
  have h_Words_is_next := h_Words_is_next T h_Words_is_over (show TopM ⟨P, w, K, mg, base⟩ (if ("Words" : Str) = ("Words" : Str) then C_Words else 0) "is_next" "Words.is_next" s_Words_is_next ["self", "some"] from by rw [if_pos rfl]; exact ⟨_, _, _, _, _, _, _, _, _, _, ⟨a_19, n_19, k_19⟩, l_19, c_19, .all (fun us hl => match us, hl with | [_, _], _ => rfl)⟩)
  have h_number_in := h_number_in T  (top_mk (M := ⟨P, w, K, mg, base⟩) X G a_20 l_20 c_20 k_20 (fun us hl => match us, hl with | [_], _ => rfl))
  have h_Words_must := h_Words_must T  (show TopM ⟨P, w, K, mg, base⟩ (if ("Words" : Str) = ("Words" : Str) then C_Words else 0) "must" "Words.must" s_Words_must ["self", "found"] from by rw [if_pos rfl]; exact ⟨_, _, _, _, _, _, _, _, _, _, ⟨a_21, n_21, k_21⟩, l_21, c_21, .all (fun us hl => match us, hl with | [_, _], _ => rfl)⟩)
  have h_Words_take := h_Words_take T h_Words_is_over (show TopM ⟨P, w, K, mg, base⟩ (if ("Words" : Str) = ("Words" : Str) then C_Words else 0) "take" "Words.take" s_Words_take ["self"] from by rw [if_pos rfl]; exact ⟨_, _, _, _, _, _, _, _, _, _, ⟨a_22, n_22, k_22⟩, l_22, c_22, .all (fun us hl => match us, hl with | [_], _ => rfl)⟩)
  have h_Words_read_number := h_Words_read_number T h_Words_must h_Words_take h_number_in (show TopM ⟨P, w, K, mg, base⟩ (if ("Words" : Str) = ("Words" : Str) then C_Words else 0) "read_number" "Words.read_number" s_Words_read_number ["self"] from by rw [if_pos rfl]; exact ⟨_, _, _, _, _, _, _, _, _, _, ⟨a_23, n_23, k_23⟩, l_23, c_23, .all (fun us hl => match us, hl with | [_], _ => rfl)⟩)
  have h_Words_read_sign := h_Words_read_sign T h_Words_must h_Words_take (show TopM ⟨P, w, K, mg, base⟩ (if ("Words" : Str) = ("Words" : Str) then C_Words else 0) "read_sign" "Words.read_sign" s_Words_read_sign ["self", "some"] from by rw [if_pos rfl]; exact ⟨_, _, _, _, _, _, _, _, _, _, ⟨a_24, n_24, k_24⟩, l_24, c_24, .all (fun us hl => match us, hl with | [_, _], _ => rfl)⟩)
  have h_Words_read_path := h_Words_read_path T h_Words_is_next h_Words_read_number h_Words_read_sign h_Words_take (show TopM ⟨P, w, K, mg, base⟩ (if ("Words" : Str) = ("Words" : Str) then C_Words else 0) "read_path" "Words.read_path" s_Words_read_path ["self"] from by rw [if_pos rfl]; exact ⟨_, _, _, _, _, _, _, _, _, _, ⟨a_25, n_25, k_25⟩, l_25, c_25, .all (fun us hl => match us, hl with | [_], _ => rfl)⟩)
  have h_Words_end := h_Words_end T h_Words_is_over (show TopM ⟨P, w, K, mg, base⟩ (if ("Words" : Str) = ("Words" : Str) then C_Words else 0) "end" "Words.end" s_Words_end ["self", "found", "is_right"] from by rw [if_pos rfl]; exact ⟨_, _, _, _, _, _, _, _, _, _, ⟨a_26, n_26, k_26⟩, l_26, c_26, .all (fun us hl => match us, hl with | [_, _, _], _ => rfl)⟩)
  have h_path_read := h_path_read T h_Words___init__ h_Words_end h_Words_read_path h_is_path (top_mk (M := ⟨P, w, K, mg, base⟩) X G a_27 l_27 c_27 k_27 (fun us hl => match us, hl with | [_], _ => rfl))
  have h__law_sign := h__law_sign T h__law_draw (top_mk (M := ⟨P, w, K, mg, base⟩) X G a_28 l_28 c_28 k_28 (fun us hl => match us, hl with | [_], _ => rfl))
  have h__law_bent := h__law_bent T h__law_draw h__law_sign (top_mk (M := ⟨P, w, K, mg, base⟩) X G a_29 l_29 c_29 k_29 (fun us hl => match us, hl with | [_, _], _ => rfl))
  have h__law_number := h__law_number T  (top_mk (M := ⟨P, w, K, mg, base⟩) X G a_30 l_30 c_30 k_30 (fun us hl => match us, hl with | [_], _ => rfl))
  have h__law_path_form := h__law_path_form T h__law_number (top_mk (M := ⟨P, w, K, mg, base⟩) X G a_31 l_31 c_31 k_31 (fun us hl => match us, hl with | [_], _ => rfl))
  have h__law_is_path := h__law_is_path T  (top_mk (M := ⟨P, w, K, mg, base⟩) X G a_32 l_32 c_32 k_32 (fun us hl => match us, hl with | [_], _ => rfl))
  have h__law_due := h__law_due T h__law_is_path h__law_path_form (top_mk (M := ⟨P, w, K, mg, base⟩) X G a_33 l_33 c_33 k_33 (fun us hl => match us, hl with | [_], _ => rfl))
  exact fnk_of l_34 c_34 sc_law t_law rfl rfl (fun X c => b_law T h__law_bent h__law_cell_at h__law_due h__law_odd h__law_path h__law_path_text h__law_pen_of h_path_read h_path_shown S__law_said c) (fun q e => by cases e; exact LT_law.to (PySem.W.mg_of X G a_34) l_34)
end PV
open PySem PySem.W PyProof.Rows
set_option maxRecDepth 100000 in
set_option maxHeartbeats 0 in
theorem PySem.Challenge.cw_bentstones_k91_paths_written_and_read_holds : PySem.Challenge.rw_bentstones_k91_paths_written_and_read.Holds := by
  w_on; o_law; k_head; (case hw => w_witness2)
  k_fill
  letI : PV.Tbl := ⟨[]⟩
  refine PV.walk_runF (α := PV.FnA) (g := true) (l := PySem.Challenge.rw_bentstones_k91_paths_written_and_read) (n := 63) (k := 9) (x := "_law_script") (mf := fun FA => @PV.m_law FA) (by rfl) rfl (by decide) rfl ⟨rfl, by decide, by decide⟩ (fun w h Y => PySem.W.km_in_of Y) (fun w h Y => PySem.W.km_tabs_of Y) ?F (fun FA => by letI : PV.FnA := FA; exact PV.law_ok)
  case F =>
    intro w mg fa h KX G hmg
    refine' PV.all_mk KX G hmg ?o_Words ?o1_Words ?o2_Words ?o3_Words ?o4_Words ?o5_Words ?o6_Words ?o7_Words_here ?o7_Words_words ?a_0 ?l_0 ?c_0 ?k_0 ?a_1 ?l_1 ?c_1 ?k_1 ?a_2 ?l_2 ?c_2 ?k_2 ?a_3 ?l_3 ?c_3 ?k_3 ?a_4 ?l_4 ?c_4 ?k_4 ?a_5 ?l_5 ?c_5 ?k_5 ?a_6 ?l_6 ?c_6 ?k_6 ?a_7 ?l_7 ?c_7 ?k_7 ?a_8 ?l_8 ?c_8 ?k_8 ?a_9 ?l_9 ?c_9 ?k_9 ?a_10 ?l_10 ?c_10 ?k_10 ?a_11 ?l_11 ?c_11 ?k_11 ?a_12 ?l_12 ?c_12 ?k_12 ?a_13 ?l_13 ?c_13 ?k_13 ?a_14 ?l_14 ?c_14 ?k_14 ?a_15 ?l_15 ?c_15 ?k_15 ?a_16 ?l_16 ?c_16 ?k_16 ?a_17 ?n_17 ?l_17 ?c_17 ?k_17 ?a_18 ?n_18 ?l_18 ?c_18 ?k_18 ?a_19 ?n_19 ?l_19 ?c_19 ?k_19 ?a_20 ?l_20 ?c_20 ?k_20 ?a_21 ?n_21 ?l_21 ?c_21 ?k_21 ?a_22 ?n_22 ?l_22 ?c_22 ?k_22 ?a_23 ?n_23 ?l_23 ?c_23 ?k_23 ?a_24 ?n_24 ?l_24 ?c_24 ?k_24 ?a_25 ?n_25 ?l_25 ?c_25 ?k_25 ?a_26 ?n_26 ?l_26 ?c_26 ?k_26 ?a_27 ?l_27 ?c_27 ?k_27 ?a_28 ?l_28 ?c_28 ?k_28 ?a_29 ?l_29 ?c_29 ?k_29 ?a_30 ?l_30 ?c_30 ?k_30 ?a_31 ?l_31 ?c_31 ?k_31 ?a_32 ?l_32 ?c_32 ?k_32 ?a_33 ?l_33 ?c_33 ?k_33 ?a_34 ?l_34 ?c_34 ?k_34 ?lu_34 ?lp_34 ?lt_34 ?lk_34 ?lh_34 ?lm_34 ?z_ArithmeticError ?z_LookupError ?z_RuntimeError ?z_TypeError ?z_ValueError ?z_all ?z_bool ?z_int ?z_isinstance ?z_len ?z_list ?z_max ?z_min ?z_range ?z_repr ?z_str ?z_tuple ?z_zip ?a_FIGURES ?a_MOST_FAR ?a_MOST_FIGURES ?a_MOST_LEGS ?a_MOST_LONG ?a_WAYS_paths ?l_WAYS_paths ?a_WAYS_texts ?l_WAYS_texts ?a_StoneError ?b_StoneError ?a_NoText ?b_NoText ?l_NoText ?x_NoText ?s_NoText ?u_NoText ?y_NoText ?k_NoText ?fi_NoText ?fl_NoText ?ft_NoText ?fc_NoText ?a_NoPath ?x_NoPath ?b_NoPath
    (case o_Words => k_is); (case o1_Words => k_is); (case o2_Words => k_is); (case o3_Words => k_is); (case o4_Words => k_is); (case o5_Words => k_is); (case o6_Words => k_is); (case o7_Words_here => k_is); (case o7_Words_words => k_is); (case a_0 => k_is); (case l_0 => k_is); (case c_0 => k_is); (case k_0 => k_is); (case a_1 => k_is); (case l_1 => k_is); (case c_1 => k_is); (case k_1 => k_is); (case a_2 => k_is); (case l_2 => k_is); (case c_2 => k_is); (case k_2 => k_is); (case a_3 => k_is); (case l_3 => k_is); (case c_3 => k_is); (case k_3 => k_is); (case a_4 => k_is); (case l_4 => k_is); (case c_4 => k_is); (case k_4 => k_is); (case a_5 => k_is); (case l_5 => k_is); (case c_5 => k_is); (case k_5 => k_is); (case a_6 => k_is); (case l_6 => k_is); (case c_6 => k_is); (case k_6 => k_is); (case a_7 => k_is); (case l_7 => k_is); (case c_7 => k_is); (case k_7 => k_is); (case a_8 => k_is); (case l_8 => k_is); (case c_8 => k_is); (case k_8 => k_is); (case a_9 => k_is); (case l_9 => k_is); (case c_9 => k_is); (case k_9 => k_is); (case a_10 => k_is); (case l_10 => k_is); (case c_10 => k_is); (case k_10 => k_is); (case a_11 => k_is); (case l_11 => k_is); (case c_11 => k_is); (case k_11 => k_is); (case a_12 => k_is); (case l_12 => k_is); (case c_12 => k_is); (case k_12 => k_is); (case a_13 => k_is); (case l_13 => k_is); (case c_13 => k_is); (case k_13 => k_is); (case a_14 => k_is); (case l_14 => k_is); (case c_14 => k_is); (case k_14 => k_is); (case a_15 => k_is); (case l_15 => k_is); (case c_15 => k_is); (case k_15 => k_is); (case a_16 => k_is); (case l_16 => k_is); (case c_16 => k_is); (case k_16 => k_is); (case a_17 => k_is); (case n_17 => k_is); (case l_17 => k_is); (case c_17 => k_is); (case k_17 => k_is); (case a_18 => k_is); (case n_18 => k_is); (case l_18 => k_is); (case c_18 => k_is); (case k_18 => k_is); (case a_19 => k_is); (case n_19 => k_is); (case l_19 => k_is); (case c_19 => k_is); (case k_19 => k_is); (case a_20 => k_is); (case l_20 => k_is); (case c_20 => k_is); (case k_20 => k_is); (case a_21 => k_is); (case n_21 => k_is); (case l_21 => k_is); (case c_21 => k_is); (case k_21 => k_is); (case a_22 => k_is); (case n_22 => k_is); (case l_22 => k_is); (case c_22 => k_is); (case k_22 => k_is); (case a_23 => k_is); (case n_23 => k_is); (case l_23 => k_is); (case c_23 => k_is); (case k_23 => k_is); (case a_24 => k_is); (case n_24 => k_is); (case l_24 => k_is); (case c_24 => k_is); (case k_24 => k_is); (case a_25 => k_is); (case n_25 => k_is); (case l_25 => k_is); (case c_25 => k_is); (case k_25 => k_is); (case a_26 => k_is); (case n_26 => k_is); (case l_26 => k_is); (case c_26 => k_is); (case k_26 => k_is); (case a_27 => k_is); (case l_27 => k_is); (case c_27 => k_is); (case k_27 => k_is); (case a_28 => k_is); (case l_28 => k_is); (case c_28 => k_is); (case k_28 => k_is); (case a_29 => k_is); (case l_29 => k_is); (case c_29 => k_is); (case k_29 => k_is); (case a_30 => k_is); (case l_30 => k_is); (case c_30 => k_is); (case k_30 => k_is); (case a_31 => k_is); (case l_31 => k_is); (case c_31 => k_is); (case k_31 => k_is); (case a_32 => k_is); (case l_32 => k_is); (case c_32 => k_is); (case k_32 => k_is); (case a_33 => k_is); (case l_33 => k_is); (case c_33 => k_is); (case k_33 => k_is); (case a_34 => k_is); (case l_34 => k_is); (case c_34 => k_is); (case k_34 => k_is); (case lu_34 => k_is); (case lp_34 => exact rfl); (case lt_34 => kernel_rfl); (case lk_34 => kernel_rfl); (case lh_34 => kernel_rfl); (case lm_34 => k_mem); (case z_ArithmeticError => k_is); (case z_LookupError => k_is); (case z_RuntimeError => k_is); (case z_TypeError => k_is); (case z_ValueError => k_is); (case z_all => k_is); (case z_bool => k_is); (case z_int => k_is); (case z_isinstance => k_is); (case z_len => k_is); (case z_list => k_is); (case z_max => k_is); (case z_min => k_is); (case z_range => k_is); (case z_repr => k_is); (case z_str => k_is); (case z_tuple => k_is); (case z_zip => k_is); (case a_FIGURES => k_is); (case a_MOST_FAR => k_is); (case a_MOST_FIGURES => k_is); (case a_MOST_LEGS => k_is); (case a_MOST_LONG => k_is); (case a_WAYS_paths => k_is); (case l_WAYS_paths => k_is); (case a_WAYS_texts => k_is); (case l_WAYS_texts => k_is); (case a_StoneError => k_is); (case b_StoneError => kernel_rfl); (case a_NoText => k_is); (case b_NoText => kernel_rfl); (case l_NoText => k_is); (case x_NoText => kernel_rfl); (case s_NoText => k_is); (case u_NoText => k_is); (case y_NoText => k_is); (case k_NoText => k_is); (case fi_NoText => k_is); (case fl_NoText => k_is); (case ft_NoText => k_is); (case fc_NoText => k_is); (case a_NoPath => k_is); (case x_NoPath => kernel_rfl); (case b_NoPath => kernel_rfl)
