import PyProof.Rows.All
import Wide.All
import OpenK.AllK
import Wide.FinOn
import HandS.ForMost
import HandS.Walk
import HandS.ExcOwn
import HandS.WordsExc
import HandS.Lambda
import HandS.HotCalls
import HandS.ExcField
import HandS.ExcIs
import HandS.ExcInit
import HandS.TryOnly
import KE.KExcIs
import KE.KIsAll
import HandS.EndTab
import HandS.TupLen
import HandS.DictTup
import KE.DataEq
import KE.DataFind
import KE.DataIsa
import KE.DataCmp
import KE.SortData
import HandS.Flow
import HandS.TupAny
import HandS.TupMul
import HandS.Style
import HandS.Wide
import HandS.Codes
import KE.DataAny
import KE.DataMinMax
import KE.DatumIndex
import HandS.Strs
import KE.KTupSum
import KE.GoesNew
import HandS.Small
import PyProof.FitsInt
import HandS.SortKw
import PyProof.TupleOfSeq
import HandS.Conv
import KE.DatumOrd
import HandS.More
import HandS.RaiseMore
import KE.DatumMoreOrd
import PySem.Challenge.RW_bentstones_k28_whole_stones_fit_when_cut
set_option Elab.async false
set_option autoImplicit false
set_option linter.all false
set_option maxRecDepth 100000
set_option maxHeartbeats 4000000

namespace PV
open PySem PySem.Spec PyProof.Rows L2

section
/-! ## results, values, the store -/
/-- the tuples that the module's top has written, with those within -/
class Wtp where
  W : List PyData
inductive Wv where
  | d (x : PyData)
  | r (i : Nat)
  /-- the exception that is handled -/
  | x (a : Addr) (c : Str) (d : Option (Addr × List (Str × PyData)))
inductive Ob where
  | lst (xs : List PyData)
  | dct (kvs : List (PyData × PyData))
  /-- a dict whose keys are tuples -/
  | dtt (kvs : List (PyData × PyData))
  /-- a dict that is pinned: nobody writes it any more -/
  | lkd (es : List (PyData × PyData))
  /-- a list that is pinned -/
  | lkl (xs : List PyData)
abbrev Sto := List Ob
abbrev En := List (Option Wv)
structure Xc where
  name : Str
  fs : List (Str × PyData)
inductive Rs (α : Type) where
  | ok (a : α) (st : Sto)
  | ex (e : Xc) (st : Sto)
  | no
namespace Rs
variable {α β : Type}
def bind (x : Rs α) (f : α → Sto → Rs β) : Rs β := match x with
  | .ok a st => f a st
  | .ex e st => .ex e st
  | .no => .no
/-- what holds at the end -/
def post (x : Rs α) (Q : α → Sto → Prop) (W : Xc → Sto → Prop) : Prop := match x with
  | .ok a st => Q a st
  | .ex e st => W e st
  | .no => False
@[simp] theorem bind_ok (a : α) (st : Sto) (f : α → Sto → Rs β) : (Rs.ok a st).bind f = f a st := rfl
@[simp] theorem bind_ex (e : Xc) (st : Sto) (f : α → Sto → Rs β) : (Rs.ex e st : Rs α).bind f = .ex e st := rfl
@[simp] theorem bind_no (f : α → Sto → Rs β) : (Rs.no : Rs α).bind f = .no := rfl
@[simp] theorem post_ok (a : α) (st : Sto) (Q : α → Sto → Prop) (W : Xc → Sto → Prop) : (Rs.ok a st).post Q W = Q a st := rfl
@[simp] theorem post_ex (e : Xc) (st : Sto) (Q : α → Sto → Prop) (W : Xc → Sto → Prop) : (Rs.ex e st : Rs α).post Q W = W e st := rfl
@[simp] theorem post_no (Q : α → Sto → Prop) (W : Xc → Sto → Prop) : (Rs.no : Rs α).post Q W = False := rfl
theorem post_bind (x : Rs α) (f : α → Sto → Rs β) (Q : β → Sto → Prop) (W : Xc → Sto → Prop) : (x.bind f).post Q W = x.post (fun a st => (f a st).post Q W) W := by cases x <;> rfl
theorem post_mono {x : Rs α} {Q Q' : α → Sto → Prop} {W W' : Xc → Sto → Prop} (h : x.post Q W) (hQ : ∀ a st, Q a st → Q' a st) (hW : ∀ e st, W e st → W' e st) : x.post Q' W' := by
  cases x with
  | ok a st => exact hQ a st h
  | ex e st => exact hW e st h
  | no => exact h
end Rs

/-- a value as data, as it is now -/
def look (st : Sto) : Wv → Option PyData
  | .d x => some x
  | .r i => match st[i]? with
    | some (.lst xs) => some (.list xs)
    | some (.dct kvs) => some (.dict kvs)
    | some (.dtt kvs) => some (.dict kvs)
    | some (.lkd kvs) => some (.dict kvs)
    | some (.lkl xs) => some (.list xs)
    | none => none
  | .x _ _ _ => none
@[simp] theorem look_d (st : Sto) (x : PyData) : look st (.d x) = some x := rfl

/-! ## data as it stands in the heap -/
abbrev Frg := PySem.W.Frag
def WrL (K : Frg) (a : Addr) (xs : List V) : Prop := ∃ (vs : Array Value) (k : Nat), K.lookup a = some { cls := .type "list", data := .seq vs k } ∧ vs.size ≤ sizeLine ∧ Vals xs vs.toList
def LsAt (K : Frg) (H : Hp) (Z : Addr → Prop) (a : Addr) (xs : List V) : Prop := (H a = some (.lst xs) ∧ Z a) ∨ (∃ o, H a = some (.frz o (.lst xs))) ∨ WrL K a xs
theorem LsAt.sq {K : Frg} {H : Hp} {Z : Addr → Prop} {a : Addr} {xs : List V} (h : LsAt K H Z a xs) : SqL K H a xs := by
  rcases h with ⟨h, _⟩ | ⟨o, h⟩ | h
  · exact .inl (.inl h)
  · exact .inl (.inr ⟨o, h⟩)
  · obtain ⟨vs, k, h1, h2, h3⟩ := h
    exact .inr ⟨_, vs, k, h1, rfl, rfl, rfl, h2, h3⟩
/-- a list, whoever holds it -/
abbrev LsX (K : Frg) (H : Hp) (a : Addr) (xs : List V) : Prop := LsAt K H (fun _ => True) a xs
theorem LsAt.x {K : Frg} {H : Hp} {Z : Addr → Prop} {a : Addr} {xs : List V} (h : LsAt K H Z a xs) : LsX K H a xs := by
  rcases h with ⟨h, _⟩ | h | h
  · exact .inl ⟨h, trivial⟩
  · exact .inr (.inl h)
  · exact .inr (.inr h)
theorem Inv.lsx {X : Cx} {pins : List (Addr × Obj)} {σ : L2.St} {H : Hp} {s : Shared} {Z : Addr → Prop} {a : Addr} {xs : List V} (I : Inv X pins σ H s) (h : LsAt X.K H Z a xs) :
    ∃ (its : List Value) (n : Nat), Vals xs its ∧ s.heap.get? a = some { cls := .type "list", data := .seq its.toArray n } ∧ xs.length ≤ sizeLine ∧ its.length = xs.length := by
  rcases h with ⟨h, _⟩ | ⟨o, h⟩ | ⟨vs, k, h1, h2, h3⟩
  · obtain ⟨z, its, n, r, e⟩ := I.hok a _ h
    exact ⟨its, n, r, e, z, r.length.symm⟩
  · obtain ⟨_, z, its, n, r, e⟩ := I.hok a _ h
    exact ⟨its, n, r, e, z, r.length.symm⟩
  · have e := h3.length
    exact ⟨vs.toList, k, h3, I.kIn a _ h1, by simp only [Array.length_toList] at e; omega, e.symm⟩

def keyD : PyData → Option Key
  | .int i => some (.inl i)
  | .str x => some (.inr x)
  | _ => none

def keysD : List PyData → Option (List Key)
  | [] => some []
  | d :: r => match keyD d, keysD r with
    | some k, some ks => some (k :: ks)
    | _, _ => none
def tkD : PyData → Option (List Key)
  | .tuple xs => keysD xs
  | _ => none
variable [Wtp]
/-- a tuple of its own, or one that the top has written -/
def TpAt (K : Frg) (H : Hp) (a : Addr) (xs : List V) (ds : List PyData) : Prop := H a = some (.tup xs) ∨ (SqT K H a xs ∧ PyData.tuple ds ∈ Wtp.W)
theorem TpAt.sq {K : Frg} {H : Hp} {a : Addr} {xs : List V} {ds : List PyData} (h : TpAt K H a xs ds) : SqT K H a xs := by
  rcases h with h | h
  · exact .inl (.inl h)
  · exact h.1
mutual
inductive Rp (K : Frg) (H : Hp) (Z : Addr → Prop) : V → PyData → Prop
  | non : Rp K H Z .non .none
  | bl (b : Bool) : Rp K H Z (.bl b) (.bool b)
  | int (i : Int) : Rp K H Z (.int i) (.int i)
  | str (x : Str) : Rp K H Z (.str x) (.str x)
  | lst {a : Addr} {xs : List V} {ds : List PyData} : LsAt K H Z a xs → RpA K H Z xs ds → Rp K H Z (.ref a) (.list ds)
  | tup {a : Addr} {xs : List V} {ds : List PyData} : TpAt K H a xs ds → RpA K H Z xs ds → Rp K H Z (.ref a) (.tuple ds)
  | dic {a : Addr} {o : Obj} {kvs : List (Key × V)} {es : List (PyData × PyData)} : H a = some (.frz o (.dK kvs)) → RpK K H Z kvs es → Rp K H Z (.ref a) (.dict es)
  | dit {a : Addr} {o : Obj} {kvs : List (List Key × V)} {es : List (PyData × PyData)} : H a = some (.frz o (.dT kvs)) → RpT K H Z kvs es → Rp K H Z (.ref a) (.dict es)
inductive RpA (K : Frg) (H : Hp) (Z : Addr → Prop) : List V → List PyData → Prop
  | nil : RpA K H Z [] []
  | cons {v : V} {vs : List V} {d : PyData} {ds : List PyData} : Rp K H Z v d → RpA K H Z vs ds → RpA K H Z (v :: vs) (d :: ds)
inductive RpK (K : Frg) (H : Hp) (Z : Addr → Prop) : List (Key × V) → List (PyData × PyData) → Prop
  | nil : RpK K H Z [] []
  | cons {k : Key} {v : V} {kvs : List (Key × V)} {c d : PyData} {es : List (PyData × PyData)} : keyD c = some k → Rp K H Z v d → RpK K H Z kvs es → RpK K H Z ((k, v) :: kvs) ((c, d) :: es)
inductive RpT (K : Frg) (H : Hp) (Z : Addr → Prop) : List (List Key × V) → List (PyData × PyData) → Prop
  | nil : RpT K H Z [] []
  | cons {k : List Key} {v : V} {kvs : List (List Key × V)} {c d : PyData} {es : List (PyData × PyData)} : tkD c = some k → Rp K H Z v d → RpT K H Z kvs es → RpT K H Z ((k, v) :: kvs) ((c, d) :: es)
end

/-- no table of code objects -/
def NT (o : HO) : Prop := ∀ ps, o ≠ .tbl ps
theorem nt_lst {xs : List V} : NT (.lst xs) := fun _ z => nomatch z
theorem nt_dK {xs : List (Key × V)} : NT (.dK xs) := fun _ z => nomatch z
theorem nt_dT {xs : List (List Key × V)} : NT (.dT xs) := fun _ z => nomatch z
/-- something stands there, and no table -/
def Nn (H : Hp) (a : Addr) : Prop := ∃ o, H a = some o ∧ NT o
theorem Nn.ne {H : Hp} {a : Addr} (h : Nn H a) : H a ≠ none := by obtain ⟨o, e, _⟩ := h; rw [e]; exact fun z => nomatch z
theorem nn_no {H : Hp} {a : Addr} (h : H a = none) : ¬ Nn H a := fun q => q.ne h
/-- a list -/
def LsO (o : HO) : Prop := ∃ xs, o = .lst xs
theorem LsO.nt {o : HO} (h : LsO o) : NT o := by obtain ⟨xs, rfl⟩ := h; exact nt_lst
/-- what data lean on is kept -/
structure Kp (K : Frg) (H : Hp) (Z : Addr → Prop) (H' : Hp) (Z' : Addr → Prop) : Prop where
  tup : ∀ a xs, H a = some (.tup xs) → H' a = some (.tup xs)
  frz : ∀ a o u, H a = some (.frz o u) → H' a = some (.frz o u)
  rest : ∀ a o, LsO o → H a = some o → Z a → H' a = some o ∧ Z' a
section
variable {K : Frg} {H H' H'' : Hp} {Z Z' Z'' : Addr → Prop}
theorem Kp.refl : Kp K H Z H Z := ⟨fun _ _ h => h, fun _ _ _ h => h, fun _ _ _ h z => ⟨h, z⟩⟩
theorem Kp.trans (p : Kp K H Z H' Z') (q : Kp K H' Z' H'' Z'') : Kp K H Z H'' Z'' :=
  ⟨fun a xs h => q.tup a xs (p.tup a xs h), fun a o u h => q.frz a o u (p.frz a o u h), fun a o nt h z => let ⟨h1, z1⟩ := p.rest a o nt h z; q.rest a o nt h1 z1⟩
theorem Kp.sqt (p : Kp K H Z H' Z') {a : Addr} {xs : List V} (h : SqT K H a xs) : SqT K H' a xs := by
  rcases h with (h | ⟨o, h⟩) | h
  · exact .inl (.inl (p.tup _ _ h))
  · exact .inl (.inr ⟨o, p.frz _ _ _ h⟩)
  · exact .inr h
theorem Kp.tp (p : Kp K H Z H' Z') {a : Addr} {xs : List V} {ds : List PyData} (h : TpAt K H a xs ds) : TpAt K H' a xs ds := by
  rcases h with h | h
  · exact .inl (p.tup _ _ h)
  · exact .inr ⟨p.sqt h.1, h.2⟩
theorem Kp.ls (p : Kp K H Z H' Z') {a : Addr} {xs : List V} (h : LsAt K H Z a xs) : LsAt K H' Z' a xs := by
  rcases h with ⟨h, z⟩ | ⟨o, h⟩ | h
  · exact .inl (p.rest _ _ ⟨_, rfl⟩ h z)
  · exact .inr (.inl ⟨o, p.frz _ _ _ h⟩)
  · exact .inr (.inr h)
mutual
theorem Rp.kp (p : Kp K H Z H' Z') : ∀ (d : PyData) (v : V), Rp K H Z v d → Rp K H' Z' v d
  | .none, _, h => by cases h; exact .non
  | .bool b, _, h => by cases h; exact .bl b
  | .int i, _, h => by cases h; exact .int i
  | .str x, _, h => by cases h; exact .str x
  | .list ds, _, h => by cases h with | lst h1 h2 => exact .lst (p.ls h1) (RpA.kp p ds _ h2)
  | .tuple ds, _, h => by cases h with | tup h1 h2 => exact .tup (p.tp h1) (RpA.kp p ds _ h2)
  | .dict es, _, h => by
    cases h with
    | dic h1 h3 => exact .dic (p.frz _ _ _ h1) (RpK.kp p es _ h3)
    | dit h1 h3 => exact .dit (p.frz _ _ _ h1) (RpT.kp p es _ h3)
theorem RpA.kp (p : Kp K H Z H' Z') : ∀ (ds : List PyData) (vs : List V), RpA K H Z vs ds → RpA K H' Z' vs ds
  | [], _, h => by cases h; exact .nil
  | d :: ds, _, h => by cases h with | cons h1 h2 => exact .cons (Rp.kp p d _ h1) (RpA.kp p ds _ h2)
theorem RpK.kp (p : Kp K H Z H' Z') : ∀ (es : List (PyData × PyData)) (kvs : List (Key × V)), RpK K H Z kvs es → RpK K H' Z' kvs es
  | [], _, h => by cases h; exact .nil
  | (c, d) :: es, _, h => by cases h with | cons h0 h1 h2 => exact .cons h0 (Rp.kp p d _ h1) (RpK.kp p es _ h2)
theorem RpT.kp (p : Kp K H Z H' Z') : ∀ (es : List (PyData × PyData)) (kvs : List (List Key × V)), RpT K H Z kvs es → RpT K H' Z' kvs es
  | [], _, h => by cases h; exact .nil
  | (c, d) :: es, _, h => by cases h with | cons h0 h1 h2 => exact .cons h0 (Rp.kp p d _ h1) (RpT.kp p es _ h2)
end
theorem Rp.mv {v : V} {d : PyData} (h : Rp K H Z v d) (p : Kp K H Z H' Z') : Rp K H' Z' v d := Rp.kp p d v h
theorem RpA.mv {vs : List V} {ds : List PyData} (h : RpA K H Z vs ds) (p : Kp K H Z H' Z') : RpA K H' Z' vs ds := RpA.kp p ds vs h
theorem RpA.len : ∀ {vs : List V} {ds : List PyData}, RpA K H Z vs ds → vs.length = ds.length
  | [], [], _ => rfl
  | _ :: vs, _ :: ds, h => by cases h with | cons _ h => simp [RpA.len h]
  | [], _ :: _, h => by cases h
  | _ :: _, [], h => by cases h
theorem RpA.get : ∀ {vs : List V} {ds : List PyData} {i : Nat} {d : PyData}, RpA K H Z vs ds → ds[i]? = some d → ∃ v, vs[i]? = some v ∧ Rp K H Z v d
  | [], [], i, d, _, e => by simp at e
  | v :: vs, c :: ds, 0, d, h, e => by
    cases h with
    | cons h1 h2 =>
      simp at e
      subst e
      exact ⟨v, rfl, h1⟩
  | v :: vs, c :: ds, i + 1, d, h, e => by
    cases h with
    | cons h1 h2 =>
      obtain ⟨u, hu, r⟩ := RpA.get (i := i) h2 (by simpa using e)
      exact ⟨u, by simpa using hu, r⟩
  | [], _ :: _, _, _, h, _ => by cases h
  | _ :: _, [], _, _, h, _ => by cases h
theorem RpA.app : ∀ {vs ws : List V} {ds es : List PyData}, RpA K H Z vs ds → RpA K H Z ws es → RpA K H Z (vs ++ ws) (ds ++ es)
  | [], _, [], _, _, h => h
  | _ :: _, _, _ :: _, _, .cons h1 h2, h => .cons h1 (RpA.app h2 h)
theorem RpA.drop : ∀ {vs : List V} {ds : List PyData} (n : Nat), RpA K H Z vs ds → RpA K H Z (vs.drop n) (ds.drop n)
  | _, _, 0, h => h
  | [], [], _ + 1, h => h
  | _ :: _, _ :: _, n + 1, .cons _ h => RpA.drop n h
theorem RpA.take : ∀ {vs : List V} {ds : List PyData} (n : Nat), RpA K H Z vs ds → RpA K H Z (vs.take n) (ds.take n)
  | _, _, 0, _ => .nil
  | [], [], _ + 1, _ => .nil
  | _ :: _, _ :: _, n + 1, .cons h1 h => .cons h1 (RpA.take n h)
theorem RpA.set {v : V} {d : PyData} (r : Rp K H Z v d) : ∀ {vs : List V} {ds : List PyData} (n : Nat), RpA K H Z vs ds → RpA K H Z (vs.set n v) (ds.set n d)
  | [], [], _, h => h
  | _ :: _, _ :: _, 0, .cons _ h => .cons r h
  | _ :: _, _ :: _, n + 1, .cons h1 h => .cons h1 (RpA.set r n h)
theorem RpA.rev : ∀ {vs : List V} {ds : List PyData}, RpA K H Z vs ds → RpA K H Z vs.reverse ds.reverse
  | [], [], h => h
  | _ :: _, _ :: _, .cons h1 h => by
    rw [List.reverse_cons, List.reverse_cons]
    exact (RpA.rev h).app (.cons h1 .nil)
end

/-! ## the real heap reads as the data -/
section
variable {X : Cx} {pins : List (Addr × Obj)} {σ : L2.St} {H : Hp} {s : Shared} {Z : Addr → Prop}
theorem keyD_rel {h : Heap} {d : PyData} {k : Key} {u : Value} (e : keyD d = some k) (r : RelV (kV k) u) : ∃ as, Reads h u d as := by
  cases d with
  | int i => cases e; obtain ⟨t, rfl⟩ := r; exact ⟨_, .int i t⟩
  | str x => cases e; obtain ⟨t, rfl⟩ := r; exact ⟨_, .str x t⟩
  | _ => cases e
theorem keysD_reads {h : Heap} : ∀ {ds : List PyData} {ks : List Key} {us : List Value}, keysD ds = some ks → Vals (ks.map kV) us → ∃ as, ReadsAll h us ds as
  | [], ks, us, e, r => by
    cases e
    cases r
    exact ⟨_, .nil⟩
  | d :: ds, ks, us, e, r => by
    unfold keysD at e
    split at e
    · rename_i k ks' e1 e2
      cases e
      cases r with
      | cons r1 r2 =>
        obtain ⟨bs, q2⟩ := keysD_reads (h := h) e2 r2
        obtain ⟨as, q1⟩ := keyD_rel (h := h) e1 r1
        exact ⟨_, .cons q1 q2⟩
    · cases e
theorem tkD_reads (I : Inv X pins σ H s) {c : PyData} {k : List Key} {b : Addr} (e : tkD c = some k) (hb : H b = some (.tup (k.map kV))) : ∃ as, Reads s.heap (.ref b) c as := by
  cases c with
  | tuple ds =>
    obtain ⟨its, rv, ⟨o, ho, hc, n, hd⟩, _⟩ := I.tuple (.inl (.inl hb))
    obtain ⟨as, hr⟩ := keysD_reads (h := s.heap) (show keysD ds = some k from e) rv
    exact ⟨_, .tuple ho hc hd hr⟩
  | _ => cases e
theorem keyD_reads {h : Heap} {c : PyData} {k : Key} {u : Value} (e : keyD c = some k) (hk : keyIs k u = true) : Reads h u c [] := by
  cases c with
  | int i =>
    cases e
    rcases keyIs_shape hk with ⟨j, t, e1, rfl⟩ | ⟨x, t, e1, rfl⟩
    · cases e1; exact .int _ _
    · cases e1
  | str x =>
    cases e
    rcases keyIs_shape hk with ⟨j, t, e1, rfl⟩ | ⟨x, t, e1, rfl⟩
    · cases e1
    · cases e1; exact .str _ _
  | _ => cases e
mutual
theorem Rp.reads (I : Inv X pins σ H s) : ∀ (d : PyData) (v : V) (u : Value), Rp X.K H Z v d → RelV v u → ∃ as, Reads s.heap u d as
  | .none, _, _, h, r => by cases h; cases r; exact ⟨_, .none⟩
  | .bool b, _, _, h, r => by cases h; cases r; exact ⟨_, .bool b⟩
  | .int i, _, _, h, r => by cases h; obtain ⟨t, rfl⟩ := r; exact ⟨_, .int i t⟩
  | .str x, _, _, h, r => by cases h; obtain ⟨t, rfl⟩ := r; exact ⟨_, .str x t⟩
  | .list ds, _, _, h, r => by
    cases h with
    | lst hs ha =>
      cases r
      obtain ⟨its, rv, ⟨o, n, ho, hc, _, hd⟩, _⟩ := I.list hs.sq
      obtain ⟨as, hr⟩ := RpA.reads I ds _ its ha rv
      exact ⟨_, .list ho hc hd hr⟩
  | .tuple ds, _, _, h, r => by
    cases h with
    | tup hs ha =>
      cases r
      obtain ⟨its, rv, ⟨o, ho, hc, n, hd⟩, _⟩ := I.tuple hs.sq
      obtain ⟨as, hr⟩ := RpA.reads I ds _ its ha rv
      exact ⟨_, .tuple ho hc hd hr⟩
  | .dict es, _, _, h, r => by
    cases h with
    | dic h1 h3 =>
      cases r
      obtain ⟨_, _, _, vs, kv, o, ents, ep, ho, hc, hd, _, he, _⟩ := (show ObjOk X.prog X.w H s.heap _ (.frz _ (.dK _)) from I.hok _ _ h1)
      obtain ⟨as, bs, r1, r2⟩ := RpK.reads I es _ vs ents.toList h3 kv he
      exact ⟨_, .dict ho hc.1 hd r1 r2⟩
    | dit h1 h3 =>
      cases r
      obtain ⟨_, _, _, xs, kt, o, ents, ep, ho, hc, hd, he, _⟩ := (show ObjOk X.prog X.w H s.heap _ (.frz _ (.dT _)) from I.hok _ _ h1)
      obtain ⟨as, bs, r1, r2⟩ := RpT.reads I es _ xs h3 kt
      rw [← he] at r1 r2
      exact ⟨_, .dict ho hc.1 hd r1 r2⟩
theorem RpA.reads (I : Inv X pins σ H s) : ∀ (ds : List PyData) (vs : List V) (us : List Value), RpA X.K H Z vs ds → Vals vs us → ∃ as, ReadsAll s.heap us ds as
  | [], _, _, h, r => by cases h; cases r; exact ⟨_, .nil⟩
  | d :: ds, _, _, h, r => by
    cases h with
    | cons h1 h2 =>
      cases r with
      | cons r1 r2 =>
        obtain ⟨as, q1⟩ := Rp.reads I d _ _ h1 r1
        obtain ⟨bs, q2⟩ := RpA.reads I ds _ _ h2 r2
        exact ⟨_, .cons q1 q2⟩
theorem RpK.reads (I : Inv X pins σ H s) : ∀ (es : List (PyData × PyData)) (kvs : List (Key × V)) (vs : List (Key × Value)) (ents : List DictEntry), RpK X.K H Z kvs es → KV kvs vs →
    Pairs (mixKind X.prog X.w) ents vs → ∃ as bs, ReadsAll s.heap (ents.map (·.key)) (es.map (·.1)) as ∧ ReadsAll s.heap (ents.map (·.val)) (es.map (·.2)) bs
  | [], _, _, _, h, r, p => by cases h; cases r; cases p; exact ⟨_, _, .nil, .nil⟩
  | (c, d) :: es, _, _, _, h, r, p => by
    cases h with
    | cons h0 h1 h2 =>
      cases r with
      | cons r1 r2 =>
        cases p with
        | cons p1 p2 p3 =>
          obtain ⟨as, bs, q1, q2⟩ := RpK.reads I es _ _ _ h2 r2 p3
          obtain ⟨cs, q3⟩ := Rp.reads I d _ _ h1 r1.2
          have q4 := keyD_reads (h := s.heap) (c := c) (h0.trans (congrArg some r1.1)) p1
          exact ⟨_, _, .cons q4 q1, by rw [List.map_cons, List.map_cons, p2]; exact .cons q3 q2⟩
theorem RpT.reads (I : Inv X pins σ H s) : ∀ (es : List (PyData × PyData)) (kvs : List (List Key × V)) (xs : List (List Key × Addr × Value)), RpT X.K H Z kvs es → KT H kvs xs →
    ∃ as bs, ReadsAll s.heap ((xs.map (entryOfKey (tupleKind (mixKind X.prog X.w)))).map (·.key)) (es.map (·.1)) as ∧ ReadsAll s.heap ((xs.map (entryOfKey (tupleKind (mixKind X.prog X.w)))).map (·.val)) (es.map (·.2)) bs
  | [], _, _, h, r => by cases h; cases r; exact ⟨_, _, .nil, .nil⟩
  | (c, d) :: es, _, _, h, r => by
    cases h with
    | cons h0 h1 h2 =>
      cases r with
      | cons r1 r2 =>
        obtain ⟨as, bs, q1, q2⟩ := RpT.reads I es _ _ h2 r2
        obtain ⟨cs, q3⟩ := Rp.reads I d _ _ h1 r1.2.2
        obtain ⟨ds, q4⟩ := tkD_reads I h0 r1.2.1
        exact ⟨_, _, .cons q4 q1, .cons q3 q2⟩
end
end
end

section
variable [Wtp]

/-! ## the store in the heap -/
structure Mp where
  ix : Nat → Addr
  F : Addr → Prop
/-- none of the store's objects, and none that is being made -/
def Off (m : Mp) (n : Nat) (a : Addr) : Prop := (∀ i, i < n → m.ix i ≠ a) ∧ ¬ m.F a
/-- an exception's own dict -/
def XdAt (K : Frg) (H : Hp) (m : Mp) (n : Nat) (dd : Addr) (es : List (Str × PyData)) : Prop := ∃ fs : List (Str × V), H dd = some (.xd fs) ∧ fs.map (·.1) = es.map (·.1) ∧ RpA K H (Off m n) (fs.map (·.2)) (es.map (·.2)) ∧ Off m n dd
def RW (K : Frg) (H : Hp) (m : Mp) (n : Nat) (v : V) : Wv → Prop
  | .d x => Rp K H (Off m n) v x
  | .r i => i < n ∧ v = .ref (m.ix i)
  | .x a _ d => v = .ref a ∧ ∀ p, d = some p → XdAt K H m n p.1 p.2
inductive RWs (K : Frg) (H : Hp) (m : Mp) (n : Nat) : List V → List Wv → Prop
  | nil : RWs K H m n [] []
  | cons {v : V} {vs : List V} {w : Wv} {ws : List Wv} : RW K H m n v w → RWs K H m n vs ws → RWs K H m n (v :: vs) (w :: ws)
/-- a pinned list -/
def FzL (K : Frg) (H : Hp) (Z : Addr → Prop) (a : Addr) (xs : List PyData) : Prop := ∃ o vs, H a = some (.frz o (.lst vs)) ∧ RpA K H Z vs xs
theorem FzL.mv {K : Frg} {H H' : Hp} {Z Z' : Addr → Prop} {a : Addr} {xs : List PyData} (h : FzL K H Z a xs) (p : Kp K H Z H' Z') : FzL K H' Z' a xs := let ⟨o, vs, h1, h2⟩ := h; ⟨o, vs, p.frz _ _ _ h1, h2.mv p⟩
theorem FzL.rp {K : Frg} {H : Hp} {Z : Addr → Prop} {a : Addr} {xs : List PyData} (h : FzL K H Z a xs) : Rp K H Z (.ref a) (.list xs) := let ⟨_, _, h1, h2⟩ := h; .lst (.inr (.inl ⟨_, h1⟩)) h2
def ObAt (K : Frg) (H : Hp) (m : Mp) (n : Nat) (a : Addr) : Ob → Prop
  | .lst xs => ∃ vs, H a = some (.lst vs) ∧ RpA K H (Off m n) vs xs
  | .dct kvs => ∃ ks, H a = some (.dK ks) ∧ RpK K H (Off m n) ks kvs
  | .dtt kvs => ∃ ks, H a = some (.dT ks) ∧ RpT K H (Off m n) ks kvs
  | .lkd kvs => Rp K H (Off m n) (.ref a) (.dict kvs)
  | .lkl xs => FzL K H (Off m n) a xs
/-- the tables of code objects that the law's own defs make lambdas with -/
class Tbl where
  T : List (Addr × Str)
structure Sim [Tbl] (K : Frg) (H : Hp) (m : Mp) (st : Sto) : Prop where
  ob : ∀ (i : Nat) o, st[i]? = some o → ObAt K H m st.length (m.ix i) o
  inj : ∀ i j, i < st.length → j < st.length → m.ix i = m.ix j → i = j
  ff : ∀ a, m.F a → Nn H a
  fi : ∀ i, i < st.length → ¬ m.F (m.ix i)
  tb : LamX.Tabs Tbl.T H
variable [Tbl]
structure Fol (m : Mp) (n : Nat) (H : Hp) (m' : Mp) (n' : Nat) (H' : Hp) : Prop where
  tup : ∀ a xs, H a = some (.tup xs) → H' a = some (.tup xs)
  frz : ∀ a o u, H a = some (.frz o u) → H' a = some (.frz o u)
  rest : ∀ a o, NT o → H a = some o → (∀ i, i < n → m.ix i ≠ a) → H' a = some o
  old : ∀ i, i < n → m'.ix i = m.ix i
  new : ∀ i, n ≤ i → i < n' → ¬ Nn H (m'.ix i)
  le : n ≤ n'
  dom : ∀ a, Nn H a → Nn H' a
  eF : ∀ a, Nn H a → (m'.F a ↔ m.F a)
structure EnvR (K : Frg) (H : Hp) (m : Mp) (n : Nat) (env : En) (σ : L2.St) : Prop where
  len : env.length = σ.length
  at' : ∀ (i : Nat) w, env[i]? = some (some w) → ∃ v, σ[i]? = some (some v) ∧ RW K H m n v w
section
variable {K : Frg} {H H' H'' : Hp} {m m' m'' : Mp} {n n' n'' : Nat}
theorem ObAt.there {a : Addr} {o : Ob} (h : ObAt K H m n a o) : Nn H a := by
  cases o with
  | lst xs => obtain ⟨vs, e, _⟩ := h; exact ⟨_, e, nt_lst⟩
  | dct kvs => obtain ⟨vs, e, _⟩ := h; exact ⟨_, e, nt_dK⟩
  | dtt kvs => obtain ⟨vs, e, _⟩ := h; exact ⟨_, e, nt_dT⟩
  | lkd kvs =>
    cases (show Rp K H (Off m n) (.ref a) (.dict kvs) from h) with
    | dic h1 _ => exact ⟨_, h1, fun _ z => nomatch z⟩
    | dit h1 _ => exact ⟨_, h1, fun _ z => nomatch z⟩
  | lkl xs => obtain ⟨o, vs, h1, _⟩ := h; exact ⟨_, h1, fun _ z => nomatch z⟩
theorem Sim.there {st : Sto} (S : Sim K H m st) {i : Nat} (hi : i < st.length) : Nn H (m.ix i) := (S.ob i st[i] (List.getElem?_eq_getElem hi)).there
theorem Sim.fresh {st : Sto} (S : Sim K H m st) {a : Addr} (h : H a = none) : Off m st.length a := ⟨fun i hi e => nn_no h (e ▸ S.there hi), fun z => nn_no h (S.ff a z)⟩
theorem Fol.refl : Fol m n H m n H := ⟨fun _ _ h => h, fun _ _ _ h => h, fun _ _ _ h _ => h, fun _ _ => rfl, fun i a b => absurd b (by omega), Nat.le_refl _, fun _ h => h, fun _ _ => Iff.rfl⟩
theorem Fol.off1 (f : Fol m n H m' n' H') {a : Addr} (z : ∀ i, i < n → m.ix i ≠ a) (h : Nn H a) : ∀ i, i < n' → m'.ix i ≠ a := fun i hi e => by
  by_cases q : i < n
  · exact z i q ((f.old i q).symm.trans e)
  · exact f.new i (by omega) hi (by rw [e]; exact h)
theorem Fol.off (f : Fol m n H m' n' H') {a : Addr} (z : Off m n a) (h : Nn H a) : Off m' n' a := ⟨f.off1 z.1 h, fun q => z.2 ((f.eF a h).mp q)⟩
theorem Fol.kp (f : Fol m n H m' n' H') : Kp K H (Off m n) H' (Off m' n') :=
  ⟨f.tup, f.frz, fun a o nt h z => ⟨f.rest a o nt.nt h z.1, f.off z ⟨o, h, nt.nt⟩⟩⟩
theorem Fol.trans (f : Fol m n H m' n' H') (g : Fol m' n' H' m'' n'' H'') : Fol m n H m'' n'' H'' where
  tup a xs h := g.tup a xs (f.tup a xs h)
  frz a o u h := g.frz a o u (f.frz a o u h)
  rest a o nt h z := g.rest a o nt (f.rest a o nt h z) (f.off1 z ⟨o, h, nt⟩)
  old i hi := (g.old i (Nat.lt_of_lt_of_le hi f.le)).trans (f.old i hi)
  new i h1 h2 := by
    by_cases q : i < n'
    · rw [g.old i q]; exact f.new i h1 q
    · exact fun z => g.new i (by omega) h2 (f.dom _ z)
  le := Nat.le_trans f.le g.le
  dom a h := g.dom a (f.dom a h)
  eF a h := (g.eF a (f.dom a h)).trans (f.eF a h)
theorem domOf (h : ∀ a o, H a = some o → H' a = some o) : ∀ a, Nn H a → Nn H' a := fun a ⟨o, e, nt⟩ => ⟨o, h _ _ e, nt⟩
theorem Fol.same (h : ∀ a o, H a = some o → H' a = some o) : Fol m n H m n H' :=
  ⟨fun _ _ q => h _ _ q, fun _ _ _ q => h _ _ q, fun _ _ _ q _ => h _ _ q, fun _ _ => rfl, fun i a b => absurd b (by omega), Nat.le_refl _, domOf h, fun _ _ => Iff.rfl⟩
theorem XdAt.mv {dd : Addr} {es : List (Str × PyData)} (h : XdAt K H m n dd es) (f : Fol m n H m' n' H') : XdAt K H' m' n' dd es := by
  obtain ⟨fs, h1, h2, h3, h4⟩ := h
  have nt : NT (.xd fs) := fun _ z => nomatch z
  exact ⟨fs, f.rest dd _ nt h1 h4.1, h2, h3.mv f.kp, f.off h4 ⟨_, h1, nt⟩⟩
theorem RW.mv {v : V} {w : Wv} (h : RW K H m n v w) (f : Fol m n H m' n' H') : RW K H' m' n' v w := by
  cases w with
  | d x => exact Rp.mv h f.kp
  | r i => exact ⟨Nat.lt_of_lt_of_le h.1 f.le, by rw [f.old i h.1]; exact h.2⟩
  | x a c d => exact ⟨h.1, fun p e => (h.2 p e).mv f⟩
theorem RWs.mv : ∀ {vs : List V} {ws : List Wv}, RWs K H m n vs ws → Fol m n H m' n' H' → RWs K H' m' n' vs ws
  | _, _, .nil, _ => .nil
  | _, _, .cons h1 h2, f => .cons (h1.mv f) (RWs.mv h2 f)
theorem RWs.len : ∀ {vs : List V} {ws : List Wv}, RWs K H m n vs ws → vs.length = ws.length
  | _, _, .nil => rfl
  | _, _, .cons _ h => by simp [RWs.len h]
theorem EnvR.mv {env : En} {σ : L2.St} (h : EnvR K H m n env σ) (f : Fol m n H m' n' H') : EnvR K H' m' n' env σ :=
  ⟨h.len, fun i w e => let ⟨v, h1, h2⟩ := h.at' i w e; ⟨v, h1, h2.mv f⟩⟩
theorem EnvR.set {env : En} {σ : L2.St} {v : V} {w : Wv} (h : EnvR K H m n env σ) (i : Nat) (r : RW K H m n v w) : EnvR K H m n (env.set i (some w)) (σ.set i (some v)) := by
  refine ⟨by simp [h.len], fun j u e => ?_⟩
  by_cases q : i = j
  · subst q
    by_cases l : i < env.length
    · rw [List.getElem?_set_self l] at e
      cases e
      exact ⟨v, List.getElem?_set_self (by rw [← h.len]; exact l), r⟩
    · rw [List.getElem?_eq_none (by simpa using l)] at e; cases e
  · rw [List.getElem?_set_ne q] at e
    obtain ⟨x, h1, h2⟩ := h.at' j u e
    exact ⟨x, by rw [List.getElem?_set_ne q]; exact h1, h2⟩
theorem ObAt.mv {a : Addr} {o : Ob} (h : ObAt K H m n a o) (f : Fol m n H m' n' H') (e : ∀ u, H a = some u → H' a = some u) : ObAt K H' m' n' a o := by
  cases o with
  | lst xs => obtain ⟨vs, h1, h2⟩ := h; exact ⟨vs, e _ h1, h2.mv f.kp⟩
  | dct kvs => obtain ⟨vs, h1, h2⟩ := h; exact ⟨vs, e _ h1, RpK.kp f.kp _ _ h2⟩
  | dtt kvs => obtain ⟨vs, h1, h2⟩ := h; exact ⟨vs, e _ h1, RpT.kp f.kp _ _ h2⟩
  | lkd es => exact Rp.mv h f.kp
  | lkl xs => exact FzL.mv h f.kp
/-- the store in a heap that has grown -/
theorem Sim.grow {st : Sto} (S : Sim K H m st) (h : ∀ a o, H a = some o → H' a = some o) : Sim K H' m st :=
  ⟨fun i o e => (S.ob i o e).mv (.same h) fun u => h _ u, S.inj, fun a z => (Fol.same (m := m) (n := 0) h).dom a (S.ff a z), S.fi, S.tb.ext h⟩
theorem grow_upd {p : Addr} {o : HO} (h : H p = none) : ∀ a u, H a = some u → upd H p o a = some u := fun a u e => by
  rw [upd_ne (ne_of_none e h)]; exact e
end

/-! ## an exception in the heap -/
structure ExR (K : Frg) (mg : Str → Option Value) (H : Hp) (m : Mp) (n : Nat) (e : Xc) (c : Value) (d : Option Addr) : Prop where
  cls : ∃ C, mg e.name = some (.ref C) ∧ c = .ref C
  fld : (e.fs = [] ∧ d = none) ∨ ∃ dd, d = some dd ∧ XdAt K H m n dd e.fs

/-! ## judgements -/
/-- what a value's end asks -/
def okE (X : Cx) (m : Mp) (n : Nat) (H : Hp) (Q : VK) : Wv → Sto → Prop := fun w st' => ∀ v H' m', Fol m n H m' st'.length H' → Sim X.K H' m' st' → RW X.K H' m' st'.length v w → Q v H'
def okX (X : Cx) (W : WX) (m : Mp) (n : Nat) (H : Hp) (σ : L2.St) : Xc → Sto → Prop := fun e st' => ∀ c d H' m', Fol m n H m' st'.length H' → Sim X.K H' m' st' → ExR X.K X.mg H' m' st'.length e c d → W c d σ H'
def tE (X : Cx) (W : WX) (c : En → Sto → Rs Wv) : TE := fun σ H Q => ∃ m env st, Sim X.K H m st ∧ EnvR X.K H m st.length env σ ∧ (c env st).post (okE X m st.length H Q) (okX X W m st.length H σ)
def tT (X : Cx) (W : WX) (c : En → Sto → Rs Bool) : TT := fun σ H Q => ∃ m env st, Sim X.K H m st ∧ EnvR X.K H m st.length env σ ∧ (c env st).post (fun b st' => ∀ H' m', Fol m st.length H m' st'.length H' → Sim X.K H' m' st' → Q b H') (okX X W m st.length H σ)
def tA (X : Cx) (W : WX) (c : En → Sto → Rs (List Wv)) : TA := fun σ H Q => ∃ m env st, Sim X.K H m st ∧ EnvR X.K H m st.length env σ ∧
  (c env st).post (fun ws st' => ∀ vs H' m', Fol m st.length H m' st'.length H' → Sim X.K H' m' st' → RWs X.K H' m' st'.length vs ws → Q vs H') (okX X W m st.length H σ)
structure DE (X : Cx) (e : Expr) (c : En → Sto → Rs Wv) : Prop where
  pe : ∀ W, Takes X W → PE X e (tE X W c)
structure DT (X : Cx) (e : Expr) (c : En → Sto → Rs Bool) : Prop where
  pt : ∀ W, Takes X W → PT X e (tT X W c)
structure DA (X : Cx) (es : List Expr) (c : En → Sto → Rs (List Wv)) : Prop where
  pa : ∀ W, Takes X W → PA X es (tA X W c)

/-- what a def's or a block's text stands in -/
structure Tb where
  N : List Str
  us : List Nat
  ls : List Nat
  ps : List Nat
  gs : List Str
  cs : List Str
  fn : Bool
  gd : Bool
  /-- the name of the lambdas that it makes -/
  lq : Option Str
/-- the module -/
structure Md where
  P : Program
  w : World
  K : Frg
  mg : Str → Option Value
  base : Heap
/-- the code object of a def that makes lambdas, and its table -/
structure LamC (mg : Str → Option Value) (base : Heap) (q : Str) (cd : Value) : Prop where
  at' : ∃ c P : Addr, cd = .ref c ∧ (P, q) ∈ Tbl.T ∧ (∀ p ∈ Tbl.T, p.1 = P → p.2 = q) ∧ LamX.TabB base mg c P
structure Cxt (M : Md) (X : Cx) (B : Tb) (k : Nat) : Prop where
  hP : X.prog = M.P
  hw : X.w = M.w
  hK : X.K = M.K
  mg : X.mg = M.mg
  hb : X.base = M.base
  hN : X.N = B.N
  nd : B.N.Nodup
  calm : X.calm = true
  kind : B.fn = true → X.env.scope.kind = .function
  room : Room k X.A
  gu : B.gd = true → X.A.guards = some []
  vis : ∀ i ∈ B.us, ∀ x, B.N[i]? = some x → Vis X.env.scope x
  loc : ∀ i ∈ B.ls, ∀ x, B.N[i]? = some x → Loc X.env.scope x ∧ (X.fn x = true ∨ X.env.scope.names.lookup x = some .local)
  pl : ∀ i ∈ B.ps, ∀ x, B.N[i]? = some x → X.env.scope.names.lookup x = some .local
  gl : ∀ (j : Nat) x, B.gs[j]? = some x → Gl X x
  cs : ∀ x ∈ B.cs, X.env.scope.names.lookup x = some .cell ∨ X.env.scope.names.lookup x = some .free
  po : B.fn = true → PassesOwn (model X.prog X.w) X.A X.env X.xe
  lam : ∀ q, B.lq = some q → X.env.qual ++ "<lambda>" = q ∧ LamC M.mg M.base q X.env.code

theorem Cxt.roomH {M : Md} {X : Cx} {B : Tb} {k : Nat} (c : Cxt M X B k) : L2H.RoomH k X.A := L2H.roomH_of c.room

section
variable {M : Md} {X : Cx} {B : Tb} {k : Nat} {pins : List (Addr × Obj)} {σ : L2.St} {H : Hp} {s : Shared} {m : Mp} {env : En} {st : Sto} {W : WX}

/-- use a value's judgement -/
theorem DE.go {e : Expr} {c : En → Sto → Rs Wv} (h : DE X e c) (tk : Takes X W) (I : Inv X pins σ H s) (S : Sim X.K H m st) (R : EnvR X.K H m st.length env σ) {Q : Value → Shared → Prop}
    (hp : (c env st).post (fun w st' => ∀ v H' m' u s', Inv X pins σ H' s' → RelV v u → Fol m st.length H m' st'.length H' → Sim X.K H' m' st' → RW X.K H' m' st'.length v w → Q u s') (okX X W m st.length H σ)) :
    wpAny (model X.prog X.w) X.A (eval e X.env) Q X.xe s := by
  refine thn ((h.pe W tk).run pins s σ H (fun v H' => ∀ u s', Inv X pins σ H' s' → RelV v u → Q u s') I ⟨m, env, st, S, R, Rs.post_mono hp (fun w st' q v H' m' f S' r u s' I' rv => q v H' m' u s' I' rv f S' r) fun _ _ q => q⟩) fun u s' q => ?_
  obtain ⟨v, H', I', rv, q⟩ := q
  exact q u s' I' rv
theorem DT.go {e : Expr} {c : En → Sto → Rs Bool} (h : DT X e c) (tk : Takes X W) (I : Inv X pins σ H s) (S : Sim X.K H m st) (R : EnvR X.K H m st.length env σ) {Q : Bool → Shared → Prop}
    (hp : (c env st).post (fun b st' => ∀ H' m' s', Inv X pins σ H' s' → Fol m st.length H m' st'.length H' → Sim X.K H' m' st' → Q b s') (okX X W m st.length H σ)) :
    wpAny (model X.prog X.w) X.A (isTrue e X.env (eval e X.env)) Q X.xe s := by
  refine thn ((h.pt W tk).run pins s σ H (fun b H' => ∀ s', Inv X pins σ H' s' → Q b s') I ⟨m, env, st, S, R, Rs.post_mono hp (fun b st' q H' m' f S' s' I' => q H' m' s' I' f S') fun _ _ q => q⟩) fun b s' q => ?_
  obtain ⟨H', I', q⟩ := q
  exact q s' I'
theorem DA.go {es : List Expr} {c : En → Sto → Rs (List Wv)} (h : DA X es c) (tk : Takes X W) (I : Inv X pins σ H s) (S : Sim X.K H m st) (R : EnvR X.K H m st.length env σ) {Q : List Value → Shared → Prop} (pos : Pos)
    (hp : (c env st).post (fun ws st' => ∀ vs H' m' us s', Inv X pins σ H' s' → Vals vs us → Fol m st.length H m' st'.length H' → Sim X.K H' m' st' → RWs X.K H' m' st'.length vs ws → Q us s') (okX X W m st.length H σ)) :
    wpAny (model X.prog X.w) X.A (spliced (backTo pos (starEach es X.env))) Q X.xe s := by
  refine thn ((h.pa W tk).run pos pins s σ H (fun vs H' => ∀ us s', Inv X pins σ H' s' → Vals vs us → Q us s') I ⟨m, env, st, S, R, Rs.post_mono hp (fun w st' q vs H' m' f S' r us s' I' rv => q vs H' m' us s' I' rv f S' r) fun _ _ q => q⟩) fun u s' q => ?_
  obtain ⟨v, H', I', rv, q⟩ := q
  exact q u s' I' rv
/-- state a value's judgement -/
theorem DE.mk' {e : Expr} {c : En → Sto → Rs Wv} (h : ∀ (W : WX) (pins : List (Addr × Obj)) (σ : L2.St) (H : Hp) (s : Shared) (m : Mp) (env : En) (st : Sto) (Q : Value → Shared → Prop), Takes X W → Inv X pins σ H s → Sim X.K H m st → EnvR X.K H m st.length env σ →
    (c env st).post (fun w st' => ∀ v H' m' u s', Inv X pins σ H' s' → RelV v u → Fol m st.length H m' st'.length H' → Sim X.K H' m' st' → RW X.K H' m' st'.length v w → Q u s') (okX X W m st.length H σ) →
    wpAny (model X.prog X.w) X.A (eval e X.env) Q X.xe s) : DE X e c := by
  refine ⟨fun W tk => ⟨fun pins s σ H Q I ⟨m, env, st, S, R, hp⟩ => h W pins σ H s m env st _ tk I S R (Rs.post_mono hp (fun w st' q v H' m' u s' I' rv f S' r => ?_) fun _ _ q => q)⟩⟩
  exact ⟨v, H', I', rv, q v H' m' f S' r⟩
theorem DT.mk' {e : Expr} {c : En → Sto → Rs Bool} (h : ∀ (W : WX) (pins : List (Addr × Obj)) (σ : L2.St) (H : Hp) (s : Shared) (m : Mp) (env : En) (st : Sto) (Q : Bool → Shared → Prop), Takes X W → Inv X pins σ H s → Sim X.K H m st → EnvR X.K H m st.length env σ →
    (c env st).post (fun b st' => ∀ H' m' s', Inv X pins σ H' s' → Fol m st.length H m' st'.length H' → Sim X.K H' m' st' → Q b s') (okX X W m st.length H σ) →
    wpAny (model X.prog X.w) X.A (isTrue e X.env (eval e X.env)) Q X.xe s) : DT X e c := by
  refine ⟨fun W tk => ⟨fun pins s σ H Q I ⟨m, env, st, S, R, hp⟩ => h W pins σ H s m env st _ tk I S R (Rs.post_mono hp (fun b st' q H' m' s' I' f S' => ?_) fun _ _ q => q)⟩⟩
  exact ⟨H', I', q H' m' f S'⟩
theorem DA.mk' {es : List Expr} {c : En → Sto → Rs (List Wv)} (h : ∀ (W : WX) (pins : List (Addr × Obj)) (σ : L2.St) (H : Hp) (s : Shared) (m : Mp) (env : En) (st : Sto) (Q : List Value → Shared → Prop) (pos : Pos), Takes X W → Inv X pins σ H s → Sim X.K H m st → EnvR X.K H m st.length env σ →
    (c env st).post (fun ws st' => ∀ vs H' m' us s', Inv X pins σ H' s' → Vals vs us → Fol m st.length H m' st'.length H' → Sim X.K H' m' st' → RWs X.K H' m' st'.length vs ws → Q us s') (okX X W m st.length H σ) →
    wpAny (model X.prog X.w) X.A (spliced (backTo pos (starEach es X.env))) Q X.xe s) : DA X es c := by
  refine ⟨fun W tk => ⟨fun pos pins s σ H Q I ⟨m, env, st, S, R, hp⟩ => h W pins σ H s m env st _ pos tk I S R (Rs.post_mono hp (fun w st' q v H' m' u s' I' rv f S' r => ?_) fun _ _ q => q)⟩⟩
  exact ⟨v, H', I', rv, q v H' m' f S' r⟩
/-- what follows a first part asks of the rest -/
theorem okX.tr {m1 : Mp} {n n1 : Nat} {H1 : Hp} {e : Xc} {st' : Sto} (f : Fol m n H m1 n1 H1) (h : okX X W m n H σ e st') : okX X W m1 n1 H1 σ e st' := fun c d H' m' f' S' r => h c d H' m' (f.trans f') S' r

/-! ### names, constants -/
def eVar (i : Nat) : En → Sto → Rs Wv := fun env st => match env[i]? with
  | some (some w) => .ok w st
  | _ => .no
theorem de_var (c : Cxt M X B k) (i : Nat) {x : Str} {pos : Pos} (h : B.N[i]? = some x) (hu : i ∈ B.us) (hd : (x == ("__debug__" : Str)) = false := by decide) (hc : (x == ("__classdict__" : Str)) = false := by decide) : DE X (.Name x pos) (eVar i) := by
  refine ⟨fun W tk => ⟨fun pins s σ H Q I ⟨m, env, st, S, R, hp⟩ => (pe_var (i := i) (by rw [c.hN]; exact h) (c.vis i hu x h) hd hc).run pins s σ H Q I ?_⟩⟩
  unfold eVar at hp
  split at hp
  · rename_i w e
    obtain ⟨v, hv, r⟩ := R.at' i w e
    exact ⟨v, hv, hp v H m .refl S r⟩
  · exact hp.elim
def eK (x : PyData) : En → Sto → Rs Wv := fun _ st => .ok (.d x) st
theorem de_pure {e : Expr} {v : V} {x : PyData} (h : PE X e (tC v)) (r : ∀ K H Z, Rp K H Z v x) : DE X e (eK x) :=
  ⟨fun W tk => ⟨fun pins s σ H Q I ⟨m, env, st, S, R, hp⟩ => h.run pins s σ H Q I (hp v H m .refl S (r _ _ _))⟩⟩
theorem de_int {i : Int} {j : Nat} {pos : Pos} : DE X (.Constant (.int i) j pos) (eK (.int i)) := de_pure pe_int fun _ _ _ => .int i
theorem de_bl {b : Bool} {j : Nat} {pos : Pos} : DE X (.Constant (.bool b) j pos) (eK (.bool b)) := de_pure pe_bl fun _ _ _ => .bl b
theorem de_non {j : Nat} {pos : Pos} : DE X (.Constant .none j pos) (eK .none) := de_pure pe_non fun _ _ _ => .non
theorem de_str {x : Str} {j : Nat} {pos : Pos} : DE X (.Constant (.str x) j pos) (eK (.str x)) := de_pure pe_str fun _ _ _ => .str x
/-- a constant of the module -/
theorem de_glob {x : Str} {pos : Pos} {v : V} {u : Value} {y : PyData} (c : Cxt M X B k) (j : Nat) (h : B.gs[j]? = some x) (hm : M.mg x = some u) (r : RelV v u) (ry : ∀ H Z, Rp M.K H Z v y) (hd : (x == ("__debug__" : Str)) = false := by decide) : DE X (.Name x pos) (eK y) :=
  ⟨fun W tk => ⟨fun pins s σ H Q I ⟨m, env, st, S, R, hp⟩ => (pe_glob (c.gl j x h) (by rw [c.mg]; exact hm) r hd).run pins s σ H Q I (hp v H m .refl S (by rw [c.hK]; exact ry _ _))⟩⟩
end
end

section
variable [Wtp] [Tbl]

/-! ## data at the top: a list of the store too -/
/-- a dict that is read -/
def DkT (K : Frg) (H : Hp) (Z : Addr → Prop) (a : Addr) (es : List (PyData × PyData)) : Prop := (∃ ks, Rd H a (.dK ks) ∧ RpK K H Z ks es) ∨ ∃ ks, Rd H a (.dT ks) ∧ RpT K H Z ks es
def RT (K : Frg) (H : Hp) (Z : Addr → Prop) (v : V) (d : PyData) : Prop :=
  Rp K H Z v d ∨ (∃ a vs ds, v = .ref a ∧ d = .list ds ∧ H a = some (.lst vs) ∧ RpA K H Z vs ds) ∨ ∃ a, ∃ (_ : Unit), ∃ es, v = .ref a ∧ d = .dict es ∧ DkT K H Z a es
inductive RTs (K : Frg) (H : Hp) (Z : Addr → Prop) : List V → List PyData → Prop
  | nil : RTs K H Z [] []
  | cons {v : V} {vs : List V} {d : PyData} {ds : List PyData} : RT K H Z v d → RTs K H Z vs ds → RTs K H Z (v :: vs) (d :: ds)
section
variable {K : Frg} {H : Hp} {Z : Addr → Prop} {m : Mp} {st : Sto} {v : V}
theorem look_rt {w : Wv} {d : PyData} (S : Sim K H m st) (r : RW K H m st.length v w) (e : look st w = some d) : RT K H (Off m st.length) v d := by
  cases w with
  | d x =>
    cases e
    exact .inl r
  | r i =>
    obtain ⟨hi, rfl⟩ := r
    simp only [look] at e
    cases q : st[i]? with
    | none => rw [q] at e; cases e
    | some o =>
      rw [q] at e
      have h := S.ob i o q
      cases o with
      | lst xs =>
        cases e
        obtain ⟨vs, h1, h2⟩ := h
        exact .inr (.inl ⟨_, vs, xs, rfl, rfl, h1, h2⟩)
      | dct kvs =>
        cases e
        obtain ⟨vs, h1, h2⟩ := h
        exact .inr (.inr ⟨_, (), kvs, rfl, rfl, .inl ⟨vs, .inl h1, h2⟩⟩)
      | dtt kvs =>
        cases e
        obtain ⟨vs, h1, h2⟩ := h
        exact .inr (.inr ⟨_, (), kvs, rfl, rfl, .inr ⟨vs, .inl h1, h2⟩⟩)
      | lkd kvs =>
        cases e
        exact .inl h
      | lkl xs =>
        cases e
        exact .inl (FzL.rp h)
  | x a c d => cases e
theorem RT.non (h : RT K H Z v .none) : v = .non := by
  rcases h with h | ⟨_, _, _, _, e, _⟩ | ⟨_, _, _, _, e, _⟩
  · cases h; rfl
  · cases e
  · cases e
theorem RT.int {i : Int} (h : RT K H Z v (.int i)) : v = .int i := by
  rcases h with h | ⟨_, _, _, _, e, _⟩ | ⟨_, _, _, _, e, _⟩
  · cases h; rfl
  · cases e
  · cases e
theorem RT.bl {b : Bool} (h : RT K H Z v (.bool b)) : v = .bl b := by
  rcases h with h | ⟨_, _, _, _, e, _⟩ | ⟨_, _, _, _, e, _⟩
  · cases h; rfl
  · cases e
  · cases e
theorem RT.str {x : Str} (h : RT K H Z v (.str x)) : v = .str x := by
  rcases h with h | ⟨_, _, _, _, e, _⟩ | ⟨_, _, _, _, e, _⟩
  · cases h; rfl
  · cases e
  · cases e
theorem RT.tupT {ds : List PyData} (h : RT K H Z v (.tuple ds)) : ∃ a vs, v = .ref a ∧ TpAt K H a vs ds ∧ RpA K H Z vs ds := by
  rcases h with h | ⟨_, _, _, _, e, _⟩ | ⟨_, _, _, _, e, _⟩
  · cases h with | tup h1 h2 => exact ⟨_, _, rfl, h1, h2⟩
  · cases e
  · cases e
theorem RT.tup {ds : List PyData} (h : RT K H Z v (.tuple ds)) : ∃ a vs, v = .ref a ∧ SqT K H a vs ∧ RpA K H Z vs ds := by
  rcases h with h | ⟨_, _, _, _, e, _⟩ | ⟨_, _, _, _, e, _⟩
  · cases h with | tup h1 h2 => exact ⟨_, _, rfl, h1.sq, h2⟩
  · cases e
  · cases e
theorem RT.lst {ds : List PyData} (h : RT K H Z v (.list ds)) : ∃ a vs, v = .ref a ∧ LsX K H a vs ∧ RpA K H Z vs ds := by
  rcases h with h | ⟨a, vs, xs, rfl, e, h1, h2⟩ | ⟨_, _, _, _, e, _⟩
  · cases h with | lst h1 h2 => exact ⟨_, _, rfl, h1.x, h2⟩
  · cases e; exact ⟨a, vs, rfl, .inl ⟨h1, trivial⟩, h2⟩
  · cases e
theorem RT.dic {es : List (PyData × PyData)} (h : RT K H Z v (.dict es)) : ∃ a, v = .ref a ∧ DkT K H Z a es := by
  rcases h with h | ⟨_, _, _, _, e, _⟩ | ⟨a, ks, xs, rfl, e, h1⟩
  · cases h with
    | dic h1 h2 => exact ⟨_, rfl, .inl ⟨_, .inr ⟨_, h1⟩, h2⟩⟩
    | dit h1 h2 => exact ⟨_, rfl, .inr ⟨_, .inr ⟨_, h1⟩, h2⟩⟩
  · cases e
  · cases e; exact ⟨a, rfl, h1⟩
end
section
variable {X : Cx} {pins : List (Addr × Obj)} {σ : L2.St} {H : Hp} {s : Shared} {Z : Addr → Prop}
theorem Inv.rt (I : Inv X pins σ H s) {v : V} {u : Value} {d : PyData} (h : RT X.K H Z v d) (r : RelV v u) : ∃ as, Reads s.heap u d as := by
  rcases h with h | ⟨a, vs, ds, rfl, rfl, h1, h2⟩ | ⟨a, ks, es, rfl, rfl, h1⟩
  · exact Rp.reads I d v u h r
  · cases r
    obtain ⟨its, rv, ⟨o, n, ho, hc, _, hd⟩, _⟩ := I.list (.inl (.inl h1))
    obtain ⟨as, hr⟩ := RpA.reads I ds _ its h2 rv
    exact ⟨_, .list ho hc hd hr⟩
  · cases r
    rcases h1 with ⟨ks, h1, h2⟩ | ⟨ks, h1, h2⟩
    · obtain ⟨_, _, vs, kv, o, ents, ep, ho, hc, hd, _, he, _⟩ := (show ObjOk X.prog X.w H s.heap _ (.dK _) from h1.ok I.hok)
      obtain ⟨as, bs, r1, r2⟩ := RpK.reads I es _ vs ents.toList h2 kv he
      exact ⟨_, .dict ho hc.1 hd r1 r2⟩
    · obtain ⟨_, _, xs, kt, o, ents, ep, ho, hc, hd, he, _⟩ := (show ObjOk X.prog X.w H s.heap _ (.dT _) from h1.ok I.hok)
      obtain ⟨as, bs, r1, r2⟩ := RpT.reads I es _ xs h2 kt
      rw [← he] at r1 r2
      exact ⟨_, .dict ho hc.1 hd r1 r2⟩
end

/-! ## operations on data -/
/-- what an operation's rule tells: its end, for whoever goes on -/
def rOut (K : Frg) (H : Hp) (Z : Addr → Prop) (r : PyData) (Q : VK) : Prop := ∀ z H', (∀ a o, H a = some o → H' a = some o) → Rp K H' Z z r → Q z H'
def rD (K : Frg) (f : PyData → PyData → Option PyData) : R2 := fun x y H Q => ∃ Z d e r, (∀ a, H a = none → Z a) ∧ RT K H Z x d ∧ RT K H Z y e ∧ f d e = some r ∧ rOut K H Z r Q
def rN (K : Frg) (f : List PyData → Option PyData) : List V → Hp → VK → Prop := fun vs H Q => ∃ Z ds r, (∀ a, H a = none → Z a) ∧ RTs K H Z vs ds ∧ f ds = some r ∧ rOut K H Z r Q
def rM (K : Frg) (f : List PyData → Option PyData) : V → List V → Hp → VK → Prop := fun x vs H Q => rN K f (x :: vs) H Q
def rU1 (K : Frg) (f : PyData → Option PyData) : V → Hp → VK → Prop := fun x H Q => ∃ Z d r, (∀ a, H a = none → Z a) ∧ RT K H Z x d ∧ f d = some r ∧ rOut K H Z r Q

/-- the truth of data -/
def truD : PyData → Bool
  | .none => false
  | .bool b => b
  | .int i => i != 0
  | .str x => x.length != 0
  | .list xs => !xs.isEmpty
  | .tuple xs => !xs.isEmpty
  | .dict es => !es.isEmpty
def strOk : PyData → Bool
  | .str x => decide (x.length ≤ 1000000)
  | .dict _ => false
  | _ => true
theorem line_lim : 1000000 ≤ sizeLine := by rw [sizeLine_eq]; decide

def ret1 (r : Option PyData) (st : Sto) : Rs Wv := match r with
  | some x => .ok (.d x) st
  | none => .no
@[simp] theorem ret1_some (x : PyData) (st : Sto) : ret1 (some x) st = .ok (.d x) st := rfl
@[simp] theorem ret1_none (st : Sto) : ret1 none st = .no := rfl
def look1 (w : Wv) (st : Sto) (f : PyData → Rs Wv) : Rs Wv := match look st w with
  | some d => f d
  | none => .no
@[simp] theorem look1_d (x : PyData) (st : Sto) (f : PyData → Rs Wv) : look1 (.d x) st f = f x := rfl
def looks : List Wv → Sto → Option (List PyData)
  | [], _ => some []
  | w :: ws, st => match look st w, looks ws st with
    | some d, some ds => some (d :: ds)
    | _, _ => none
@[simp] theorem looks_nil (st : Sto) : looks [] st = some [] := rfl
@[simp] theorem looks_d (x : PyData) (ws : List Wv) (st : Sto) : looks (.d x :: ws) st = (looks ws st).map (x :: ·) := by
  simp only [looks, look_d]
  cases looks ws st <;> rfl

def eOp2 (f : PyData → PyData → Option PyData) (ca cb : En → Sto → Rs Wv) : En → Sto → Rs Wv := fun env st =>
  (ca env st).bind fun a st1 => (cb env st1).bind fun b st2 => look1 a st2 fun d => look1 b st2 fun e => ret1 (f d e) st2
def eOp1 (f : PyData → Option PyData) (ca : En → Sto → Rs Wv) : En → Sto → Rs Wv := fun env st => (ca env st).bind fun a st1 => look1 a st1 fun d => ret1 (f d) st1
def aNil : En → Sto → Rs (List Wv) := fun _ st => .ok [] st
def aCons (ca : En → Sto → Rs Wv) (cs : En → Sto → Rs (List Wv)) : En → Sto → Rs (List Wv) := fun env st => (ca env st).bind fun a st1 => (cs env st1).bind fun r st2 => .ok (a :: r) st2
def eOpN (f : List PyData → Option PyData) (cs : En → Sto → Rs (List Wv)) : En → Sto → Rs Wv := fun env st =>
  (cs env st).bind fun ws st1 => match looks ws st1 with
    | some ds => ret1 (f ds) st1
    | none => .no
/-- the truth of a value -/
def tru (w : Wv) (st : Sto) : Rs Bool := match look st w with
  | some d => if strOk d then .ok (truD d) st else .no
  | none => .no
@[simp] theorem tru_bool (b : Bool) (st : Sto) : tru (.d (.bool b)) st = .ok b st := rfl
def tTru (c : En → Sto → Rs Wv) : En → Sto → Rs Bool := fun env st => (c env st).bind tru
def tAnd2 (a b : En → Sto → Rs Bool) : En → Sto → Rs Bool := fun env st => (a env st).bind fun x st1 => if x then b env st1 else .ok false st1
def tOr2 (a b : En → Sto → Rs Bool) : En → Sto → Rs Bool := fun env st => (a env st).bind fun x st1 => if x then .ok true st1 else b env st1
def tNot1 (a : En → Sto → Rs Bool) : En → Sto → Rs Bool := fun env st => (a env st).bind fun x st1 => .ok (!x) st1
def eAnd2 (a b : En → Sto → Rs Wv) : En → Sto → Rs Wv := fun env st => (a env st).bind fun w st1 => (tru w st1).bind fun x st2 => if x then b env st2 else .ok w st2
def eOr2 (a b : En → Sto → Rs Wv) : En → Sto → Rs Wv := fun env st => (a env st).bind fun w st1 => (tru w st1).bind fun x st2 => if x then .ok w st2 else b env st2
def eNot1 (a : En → Sto → Rs Wv) : En → Sto → Rs Wv := fun env st => (a env st).bind fun w st1 => (tru w st1).bind fun x st2 => .ok (.d (.bool (!x))) st2
def eIf (t : En → Sto → Rs Bool) (a b : En → Sto → Rs Wv) : En → Sto → Rs Wv := fun env st => (t env st).bind fun x st1 => if x then a env st1 else b env st1
/-- a op b op' c -/
def eChain (f g : PyData → PyData → Option PyData) (ca cb cc : En → Sto → Rs Wv) : En → Sto → Rs Wv := fun env st =>
  (ca env st).bind fun a st1 => (cb env st1).bind fun b st2 => look1 a st2 fun d => look1 b st2 fun e => match f d e with
    | some (.bool true) => (cc env st2).bind fun c st3 => look1 b st3 fun e' => look1 c st3 fun y => ret1 (g e' y) st3
    | some (.bool false) => .ok (.d (.bool false)) st2
    | _ => .no
def allD : List Wv → Option (List PyData)
  | [] => some []
  | .d x :: ws => (allD ws).map (x :: ·)
  | .r _ :: _ => none
  | .x _ _ _ :: _ => none
@[simp] theorem allD_nil : allD [] = some [] := rfl
@[simp] theorem allD_cons (x : PyData) (ws : List Wv) : allD (.d x :: ws) = (allD ws).map (x :: ·) := rfl
def eTup (cs : En → Sto → Rs (List Wv)) : En → Sto → Rs Wv := fun env st => (cs env st).bind fun ws st1 => match allD ws with
  | some ds => if ds.length ≤ 1000000 then .ok (.d (.tuple ds)) st1 else .no
  | none => .no
def eLst (cs : En → Sto → Rs (List Wv)) : En → Sto → Rs Wv := fun env st => (cs env st).bind fun ws st1 => match allD ws with
  | some ds => if ds.length ≤ 1000000 then .ok (.d (.list ds)) st1 else .no
  | none => .no
/-- a new list of the store -/
def eNewL (cs : En → Sto → Rs (List Wv)) : En → Sto → Rs Wv := fun env st => (cs env st).bind fun ws st1 => match allD ws with
  | some ds => if ds.length ≤ 1000000 then .ok (.r st1.length) (st1 ++ [.lst ds]) else .no
  | none => .no
def eNewD : En → Sto → Rs Wv := fun _ st => .ok (.r st.length) (st ++ [.dct []])
/-- a new dict whose keys will be tuples -/
def eNewT : En → Sto → Rs Wv := fun _ st => .ok (.r st.length) (st ++ [.dtt []])
def eDic0 : En → Sto → Rs Wv := eK (.dict [])

section
variable {M : Md} {X : Cx} {B : Tb} {k : Nat} {pins : List (Addr × Obj)} {σ : L2.St} {H : Hp} {s : Shared} {m : Mp} {env : En} {st : Sto} {W : WX}
  {a b : Expr} {ca cb cc : En → Sto → Rs Wv} {pos : Pos}
theorem PE.imp {e : Expr} {t t' : TE} (h : PE X e t) (q : ∀ σ H Q, t' σ H Q → t σ H Q) : PE X e t' := ⟨fun pins s σ H Q I x => h.run pins s σ H Q I (q σ H Q x)⟩
theorem PT.imp {e : Expr} {t t' : TT} (h : PT X e t) (q : ∀ σ H Q, t' σ H Q → t σ H Q) : PT X e t' := ⟨fun pins s σ H Q I x => h.run pins s σ H Q I (q σ H Q x)⟩
theorem PW.imp {e : Expr} {t t' : TT} (h : PW X e t) (q : ∀ σ H Q, t' σ H Q → t σ H Q) : PW X e t' := ⟨fun wh pins s σ H Q I x => h.run wh pins s σ H Q I (q σ H Q x)⟩
theorem PA.imp {e : List Expr} {t t' : TA} (h : PA X e t) (q : ∀ σ H Q, t' σ H Q → t σ H Q) : PA X e t' := ⟨fun pos pins s σ H Q I x => h.run pos pins s σ H Q I (q σ H Q x)⟩
theorem look1_post {w : Wv} {f : PyData → Rs Wv} {Q : Wv → Sto → Prop} {R : Xc → Sto → Prop} (h : (look1 w st f).post Q R) : ∃ d, look st w = some d ∧ (f d).post Q R := by
  unfold look1 at h
  split at h
  · exact ⟨_, by assumption, h⟩
  · exact h.elim
theorem ret1_post {r : Option PyData} {Q : Wv → Sto → Prop} {R : Xc → Sto → Prop} (h : (ret1 r st).post Q R) : ∃ d, r = some d ∧ Q (.d d) st := by
  unfold ret1 at h
  split at h
  · exact ⟨_, rfl, h⟩
  · exact h.elim
/-- an operation's end goes on -/
theorem okE.out {m1 : Mp} {H1 : Hp} {st1 : Sto} {n : Nat} {r : PyData} {Q : VK} (f : Fol m n H m1 st1.length H1) (S : Sim X.K H1 m1 st1) (q : okE X m n H Q (.d r) st1) : rOut X.K H1 (Off m1 st1.length) r Q := fun z H' g h =>
  q z H' m1 (f.trans (.same g)) (S.grow g) h

/-- two parts, then what is asked of both -/
theorem te_two (f : PyData → PyData → Option PyData) {Q : VK} (h : tE X W (eOp2 f ca cb) σ H Q) : tOp (rD X.K f) (tE X W ca) (tE X W cb) σ H Q := by
  obtain ⟨m, env, st, S, R, hp⟩ := h
  unfold eOp2 at hp
  rw [Rs.post_bind] at hp
  refine ⟨m, env, st, S, R, Rs.post_mono hp (fun w st1 q v H1 m1 f1 S1 r1 => ?_) fun _ _ q => q⟩
  rw [Rs.post_bind] at q
  refine ⟨m1, env, st1, S1, R.mv f1, Rs.post_mono q (fun w2 st2 q v2 H2 m2 f2 S2 r2 => ?_) fun _ _ q => okX.tr f1 q⟩
  obtain ⟨d, e1, q⟩ := look1_post q
  obtain ⟨e, e2, q⟩ := look1_post q
  obtain ⟨r, e3, q⟩ := ret1_post q
  exact ⟨_, d, e, r, fun a => S2.fresh, look_rt S2 (r1.mv f2) e1, look_rt S2 r2 e2, e3, okE.out (f1.trans f2) S2 q⟩
theorem te_one (f : PyData → Option PyData) {Q : VK} (h : tE X W (eOp1 f ca) σ H Q) : tUn (rU1 X.K f) (tE X W ca) σ H Q := by
  obtain ⟨m, env, st, S, R, hp⟩ := h
  unfold eOp1 at hp
  rw [Rs.post_bind] at hp
  refine ⟨m, env, st, S, R, Rs.post_mono hp (fun w st1 q v H1 m1 f1 S1 r1 => ?_) fun _ _ q => q⟩
  obtain ⟨d, e1, q⟩ := look1_post q
  obtain ⟨r, e3, q⟩ := ret1_post q
  exact ⟨_, d, r, fun a => S1.fresh, look_rt S1 r1 e1, e3, okE.out f1 S1 q⟩
theorem looks_rt {vs : List V} {ws : List Wv} {ds : List PyData} (S : Sim X.K H m st) (r : RWs X.K H m st.length vs ws) (e : looks ws st = some ds) : RTs X.K H (Off m st.length) vs ds := by
  induction r generalizing ds with
  | nil => cases e; exact .nil
  | cons r1 r2 ih =>
    unfold looks at e
    split at e
    · cases e
      exact .cons (look_rt S r1 (by assumption)) (ih (by assumption))
    · cases e
theorem te_all (f : List PyData → Option PyData) {cs : En → Sto → Rs (List Wv)} {Q : VK} (h : tE X W (eOpN f cs) σ H Q) : tCB (rN X.K f) (tA X W cs) σ H Q := by
  obtain ⟨m, env, st, S, R, hp⟩ := h
  unfold eOpN at hp
  rw [Rs.post_bind] at hp
  refine ⟨m, env, st, S, R, Rs.post_mono hp (fun ws st1 q vs H1 m1 f1 S1 r1 => ?_) fun _ _ q => q⟩
  split at q
  · obtain ⟨r, e3, q⟩ := ret1_post q
    exact ⟨_, _, r, fun a => S1.fresh, looks_rt S1 r1 (by assumption), e3, okE.out f1 S1 q⟩
  · exact q.elim

/-! ### argument lists, operators -/
theorem da_nil : DA X [] aNil := ⟨fun W tk => ⟨fun pos pins s σ H Q I ⟨m, env, st, S, R, hp⟩ => pa_nil.run pos pins s σ H Q I (hp [] H m .refl S .nil)⟩⟩
theorem da_cons {e : Expr} {es : List Expr} {cs : En → Sto → Rs (List Wv)} (ha : DE X e ca) (hr : DA X es cs) (hs : starEach (e :: es) X.env = (false, eval e X.env) :: starEach es X.env := by rfl) : DA X (e :: es) (aCons ca cs) := by
  refine ⟨fun W tk => PA.imp (pa_cons (ha.pe W tk) (hr.pa W tk) hs) fun σ H Q ⟨m, env, st, S, R, hp⟩ => ?_⟩
  unfold aCons at hp
  rw [Rs.post_bind] at hp
  refine ⟨m, env, st, S, R, Rs.post_mono hp (fun w st1 q v H1 m1 f1 S1 r1 => ?_) fun _ _ q => q⟩
  rw [Rs.post_bind] at q
  refine ⟨m1, env, st1, S1, R.mv f1, Rs.post_mono q (fun ws st2 q vs H2 m2 f2 S2 r2 => ?_) fun _ _ q => okX.tr f1 q⟩
  exact q (v :: vs) H2 m2 (f1.trans f2) S2 (.cons (r1.mv f2) r2)
theorem de_bin {op : Operator} {f : PyData → PyData → Option PyData} (ho : OpR X (binaryOp op) (rD X.K f)) (ha : DE X a ca) (hb : DE X b cb) : DE X (.BinOp a op b pos) (eOp2 f ca cb) :=
  ⟨fun W tk => PE.imp (pe_op ho (ha.pe W tk) (hb.pe W tk)) fun σ H Q => te_two f⟩
theorem de_un {op : UnaryOp} {f : PyData → Option PyData} (ho : UnR X (unaryOp op) (rU1 X.K f)) (ha : DE X a ca) : DE X (.UnaryOp op a pos) (eOp1 f ca) :=
  ⟨fun W tk => PE.imp (pe_un ho (ha.pe W tk)) fun σ H Q => te_one f⟩
theorem de_cmp {op : CmpOp} {f : PyData → PyData → Option PyData} (ho : OpR X (compareOp op) (rD X.K f)) (ha : DE X a ca) (hb : DE X b cb) (hm : behindInMarks op b = false) : DE X (.Compare a [op] [b] pos) (eOp2 f ca cb) :=
  ⟨fun W tk => PE.imp (pe_cmpR ho (ha.pe W tk) (hb.pe W tk) hm) fun σ H Q => te_two f⟩
/-- tests of bools -/
def tBl (c : En → Sto → Rs Wv) : En → Sto → Rs Bool := fun env st => (c env st).bind fun w st1 => match w with
  | .d (.bool b) => .ok b st1
  | _ => .no
theorem tt_of {Q : Bool → Hp → Prop} {c : En → Sto → Rs Wv} (h : tT X W (tBl c) σ H Q) : tE X W c σ H fun x H' => ∃ k, x = .bl k ∧ Q k H' := by
  obtain ⟨m, env, st, S, R, hp⟩ := h
  unfold tBl at hp
  rw [Rs.post_bind] at hp
  refine ⟨m, env, st, S, R, Rs.post_mono hp (fun w st1 q v H1 m1 f1 S1 r1 => ?_) fun _ _ q => q⟩
  split at q
  · cases r1
    exact ⟨_, rfl, q H1 m1 f1 S1⟩
  · exact q.elim
theorem dt_cmp {op : CmpOp} {f : PyData → PyData → Option PyData} (ho : OpR X (compareOp op) (rD X.K f)) (ha : DE X a ca) (hb : DE X b cb) (hm : behindInMarks op b = false) : DT X (.Compare a [op] [b] pos) (tBl (eOp2 f ca cb)) :=
  ⟨fun W tk => PT.imp (pt_cmpR ho (ha.pe W tk) (hb.pe W tk) hm) fun σ H Q h => te_two f (tt_of h)⟩
theorem te_chain {f g : PyData → PyData → Option PyData} {Q : VK} (h : tE X W (eChain f g ca cb cc) σ H Q) : tChain (rD X.K f) (rD X.K g) (tE X W ca) (tE X W cb) (tE X W cc) σ H Q := by
  obtain ⟨m, env, st, S, R, hp⟩ := h
  unfold eChain at hp
  rw [Rs.post_bind] at hp
  refine ⟨m, env, st, S, R, Rs.post_mono hp (fun w st1 q v H1 m1 f1 S1 r1 => ?_) fun _ _ q => q⟩
  rw [Rs.post_bind] at q
  refine ⟨m1, env, st1, S1, R.mv f1, Rs.post_mono q (fun w2 st2 q v2 H2 m2 f2 S2 r2 => ?_) fun _ _ q => okX.tr f1 q⟩
  obtain ⟨d, e1, q⟩ := look1_post q
  obtain ⟨e, e2, q⟩ := look1_post q
  split at q
  · rename_i e3
    refine ⟨_, d, e, _, fun a => S2.fresh, look_rt S2 (r1.mv f2) e1, look_rt S2 r2 e2, e3, fun z H' g0 h => ?_⟩
    cases h
    refine ⟨true, rfl, ?_⟩
    rw [if_pos rfl]
    have g2 : Fol m2 st2.length H2 m2 st2.length H' := .same g0
    rw [Rs.post_bind] at q
    refine ⟨m2, env, st2, S2.grow g0, (R.mv f1).mv (f2.trans g2), Rs.post_mono q (fun w3 st3 q v3 H3 m3 f3 S3 r3 => ?_) fun _ _ q => okX.tr (f1.trans (f2.trans g2)) q⟩
    obtain ⟨e', e4, q⟩ := look1_post q
    obtain ⟨y, e5, q⟩ := look1_post q
    obtain ⟨r, e6, q⟩ := ret1_post q
    exact ⟨_, e', y, r, fun a => S3.fresh, look_rt S3 ((r2.mv g2).mv f3) e4, look_rt S3 r3 e5, e6, okE.out ((f1.trans (f2.trans g2)).trans f3) S3 q⟩
  · rename_i e3
    refine ⟨_, d, e, _, fun a => S2.fresh, look_rt S2 (r1.mv f2) e1, look_rt S2 r2 e2, e3, fun z H' g0 h => ?_⟩
    cases h
    refine ⟨false, rfl, ?_⟩
    rw [if_neg Bool.false_ne_true]
    exact q _ _ m2 ((f1.trans f2).trans (.same g0)) (S2.grow g0) (.bl false)
  · exact q.elim
theorem de_chain {op op' : CmpOp} {f g : PyData → PyData → Option PyData} {c : Expr} (ho : OpR X (compareOp op) (rD X.K f)) (ho' : OpR X (compareOp op') (rD X.K g)) (ha : DE X a ca) (hb : DE X b cb) (hc : DE X c cc)
    (hm : lastMarks [op, op'] [b, c] = false := by with_unfolding_all rfl) : DE X (.Compare a [op, op'] [b, c] pos) (eChain f g ca cb cc) :=
  ⟨fun W tk => PE.imp (pe_chain ho ho' (ha.pe W tk) (hb.pe W tk) (hc.pe W tk) hm) fun σ H Q => te_chain⟩
theorem dt_chain {op op' : CmpOp} {f g : PyData → PyData → Option PyData} {c : Expr} (ho : OpR X (compareOp op) (rD X.K f)) (ho' : OpR X (compareOp op') (rD X.K g)) (ha : DE X a ca) (hb : DE X b cb) (hc : DE X c cc)
    (hm : lastMarks [op, op'] [b, c] = false := by with_unfolding_all rfl) : DT X (.Compare a [op, op'] [b, c] pos) (tBl (eChain f g ca cb cc)) :=
  ⟨fun W tk => PT.imp (pt_chain ho ho' (ha.pe W tk) (hb.pe W tk) (hc.pe W tk) hm) fun σ H Q h => te_chain (tt_of h)⟩

/-! ### truth, and, or, not -/
theorem truV_of {v : V} {d : PyData} {Z : Addr → Prop} (r : RT X.K H Z v d) (h : strOk d = true) : TruV X.K v H (truD d) := by
  cases d with
  | none => rw [r.non]; rfl
  | bool b => rw [r.bl]; rfl
  | int i => rw [r.int]; rfl
  | str x =>
    rw [r.str]
    refine ⟨Nat.le_trans (of_decide_eq_true h) line_lim, ?_⟩
    show (x.length != 0) = ((x.length : Int) != 0)
    cases x.length <;> rfl
  | list xs =>
    obtain ⟨a, vs, rfl, h1, h2⟩ := r.lst
    refine .inl ⟨vs, h1.sq, ?_⟩
    cases h2 <;> rfl
  | tuple xs =>
    obtain ⟨a, vs, rfl, h1, h2⟩ := r.tup
    refine .inr (.inl ⟨vs, h1, ?_⟩)
    cases h2 <;> rfl
  | dict es => cases h

theorem tru_post {w : Wv} {Q : Bool → Sto → Prop} {R : Xc → Sto → Prop} (h : (tru w st).post Q R) : ∃ d, look st w = some d ∧ strOk d = true ∧ Q (truD d) st := by
  unfold tru at h
  split at h
  · split at h
    · exact ⟨_, by assumption, by assumption, h⟩
    · exact h.elim
  · exact h.elim
theorem dt_val (ha : DE X a ca) (he : ∀ whole, isTrue a X.env whole = (do let v ← whole; standAt a.pos; holding [v] (truthy v)) := by intro _; rfl) : DT X a (tTru ca) := by
  refine ⟨fun W tk => PT.imp (pt_truth (ha.pe W tk) he) fun σ H Q ⟨m, env, st, S, R, hp⟩ => ?_⟩
  unfold tTru at hp
  rw [Rs.post_bind] at hp
  refine ⟨m, env, st, S, R, Rs.post_mono hp (fun w st1 q v H1 m1 f1 S1 r1 => ?_) fun _ _ q => q⟩
  obtain ⟨d, e1, e2, q⟩ := tru_post q
  exact ⟨_, truV_of (look_rt S1 r1 e1) e2, q H1 m1 f1 S1⟩

/-- a test whatever its 'whole' is -/
structure DW (X : Cx) (e : Expr) (c : En → Sto → Rs Bool) : Prop where
  pw : ∀ W, Takes X W → PW X e (tT X W c)
theorem DW.dt {e : Expr} {c : En → Sto → Rs Bool} (h : DW X e c) : DT X e c := ⟨fun W tk => (h.pw W tk).pt⟩
variable {ta tb : En → Sto → Rs Bool} {rest : List Expr}
theorem dw_and1 (ha : DT X a ta) : DW X (.BoolOp .And [a] pos) ta := ⟨fun W tk => pw_and1 (ha.pt W tk)⟩
theorem dw_or1 (ha : DT X a ta) : DW X (.BoolOp .Or [a] pos) ta := ⟨fun W tk => pw_or1 (ha.pt W tk)⟩
theorem dw_and (ha : DT X a ta) (hb : DW X (.BoolOp .And (b :: rest) pos) tb) : DW X (.BoolOp .And (a :: b :: rest) pos) (tAnd2 ta tb) := by
  refine ⟨fun W tk => PW.imp (pw_and (ha.pt W tk) (hb.pw W tk)) fun σ H Q ⟨m, env, st, S, R, hp⟩ => ?_⟩
  unfold tAnd2 at hp
  rw [Rs.post_bind] at hp
  refine ⟨m, env, st, S, R, Rs.post_mono hp (fun x st1 q H1 m1 f1 S1 => ?_) fun _ _ q => q⟩
  cases x with
  | true => exact ⟨m1, env, st1, S1, R.mv f1, Rs.post_mono q (fun y st2 q H2 m2 f2 S2 => q H2 m2 (f1.trans f2) S2) fun _ _ q => okX.tr f1 q⟩
  | false => exact q H1 m1 f1 S1
theorem dw_or (ha : DT X a ta) (hb : DW X (.BoolOp .Or (b :: rest) pos) tb) : DW X (.BoolOp .Or (a :: b :: rest) pos) (tOr2 ta tb) := by
  refine ⟨fun W tk => PW.imp (pw_or (ha.pt W tk) (hb.pw W tk)) fun σ H Q ⟨m, env, st, S, R, hp⟩ => ?_⟩
  unfold tOr2 at hp
  rw [Rs.post_bind] at hp
  refine ⟨m, env, st, S, R, Rs.post_mono hp (fun x st1 q H1 m1 f1 S1 => ?_) fun _ _ q => q⟩
  cases x with
  | false => exact ⟨m1, env, st1, S1, R.mv f1, Rs.post_mono q (fun y st2 q H2 m2 f2 S2 => q H2 m2 (f1.trans f2) S2) fun _ _ q => okX.tr f1 q⟩
  | true => exact q H1 m1 f1 S1
theorem dt_not (ha : DT X a ta) : DT X (.UnaryOp .Not a pos) (tNot1 ta) := by
  refine ⟨fun W tk => PT.imp (pt_not (ha.pt W tk)) fun σ H Q ⟨m, env, st, S, R, hp⟩ => ?_⟩
  unfold tNot1 at hp
  rw [Rs.post_bind] at hp
  exact ⟨m, env, st, S, R, Rs.post_mono hp (fun x st1 q H1 m1 f1 S1 => q H1 m1 f1 S1) fun _ _ q => q⟩
/-- as values -/
theorem de_one {op : BoolOp} (ha : DE X a ca) : DE X (.BoolOp op [a] pos) ca := ⟨fun W tk => pe_one (ha.pe W tk)⟩
theorem de_and (ha : DE X a ca) (hb : DE X (.BoolOp .And (b :: rest) pos) cb) : DE X (.BoolOp .And (a :: b :: rest) pos) (eAnd2 ca cb) := by
  refine ⟨fun W tk => PE.imp (pe_andT (ha.pe W tk) (hb.pe W tk)) fun σ H Q ⟨m, env, st, S, R, hp⟩ => ?_⟩
  unfold eAnd2 at hp
  rw [Rs.post_bind] at hp
  refine ⟨m, env, st, S, R, Rs.post_mono hp (fun w st1 q v H1 m1 f1 S1 r1 => ?_) fun _ _ q => q⟩
  rw [Rs.post_bind] at q
  obtain ⟨d, e1, e2, q⟩ := tru_post q
  refine ⟨_, truV_of (look_rt S1 r1 e1) e2, ?_⟩
  cases q2 : truD d with
  | true =>
    rw [q2, if_pos rfl] at q
    exact ⟨m1, env, st1, S1, R.mv f1, Rs.post_mono q (fun y st2 q v2 H2 m2 f2 S2 r2 => q v2 H2 m2 (f1.trans f2) S2 r2) fun _ _ q => okX.tr f1 q⟩
  | false =>
    rw [q2, if_neg Bool.false_ne_true] at q
    exact q v H1 m1 f1 S1 r1
theorem de_or (ha : DE X a ca) (hb : DE X (.BoolOp .Or (b :: rest) pos) cb) : DE X (.BoolOp .Or (a :: b :: rest) pos) (eOr2 ca cb) := by
  refine ⟨fun W tk => PE.imp (pe_orT (ha.pe W tk) (hb.pe W tk)) fun σ H Q ⟨m, env, st, S, R, hp⟩ => ?_⟩
  unfold eOr2 at hp
  rw [Rs.post_bind] at hp
  refine ⟨m, env, st, S, R, Rs.post_mono hp (fun w st1 q v H1 m1 f1 S1 r1 => ?_) fun _ _ q => q⟩
  rw [Rs.post_bind] at q
  obtain ⟨d, e1, e2, q⟩ := tru_post q
  refine ⟨_, truV_of (look_rt S1 r1 e1) e2, ?_⟩
  cases q2 : truD d with
  | false =>
    rw [q2, if_neg Bool.false_ne_true] at q
    exact ⟨m1, env, st1, S1, R.mv f1, Rs.post_mono q (fun y st2 q v2 H2 m2 f2 S2 r2 => q v2 H2 m2 (f1.trans f2) S2 r2) fun _ _ q => okX.tr f1 q⟩
  | true =>
    rw [q2, if_pos rfl] at q
    exact q v H1 m1 f1 S1 r1
theorem de_not (ha : DE X a ca) : DE X (.UnaryOp .Not a pos) (eNot1 ca) := by
  refine ⟨fun W tk => PE.imp (pe_notT (ha.pe W tk)) fun σ H Q ⟨m, env, st, S, R, hp⟩ => ?_⟩
  unfold eNot1 at hp
  rw [Rs.post_bind] at hp
  refine ⟨m, env, st, S, R, Rs.post_mono hp (fun w st1 q v H1 m1 f1 S1 r1 => ?_) fun _ _ q => q⟩
  rw [Rs.post_bind] at q
  obtain ⟨d, e1, e2, q⟩ := tru_post q
  exact ⟨_, truV_of (look_rt S1 r1 e1) e2, q _ H1 m1 f1 S1 (.bl _)⟩
theorem de_if {c : Expr} (hc : DT X c ta) (ha : DE X a ca) (hb : DE X b cb) : DE X (.IfExp c a b pos) (eIf ta ca cb) := by
  refine ⟨fun W tk => PE.imp (pe_ifExp (hc.pt W tk) (ha.pe W tk) (hb.pe W tk)) fun σ H Q ⟨m, env, st, S, R, hp⟩ => ?_⟩
  unfold eIf at hp
  rw [Rs.post_bind] at hp
  refine ⟨m, env, st, S, R, Rs.post_mono hp (fun x st1 q H1 m1 f1 S1 => ?_) fun _ _ q => q⟩
  cases x with
  | true => exact ⟨m1, env, st1, S1, R.mv f1, Rs.post_mono q (fun y st2 q v2 H2 m2 f2 S2 r2 => q v2 H2 m2 (f1.trans f2) S2 r2) fun _ _ q => okX.tr f1 q⟩
  | false => exact ⟨m1, env, st1, S1, R.mv f1, Rs.post_mono q (fun y st2 q v2 H2 m2 f2 S2 r2 => q v2 H2 m2 (f1.trans f2) S2 r2) fun _ _ q => okX.tr f1 q⟩

/-! ### displays -/
theorem allD_rp {vs : List V} {ws : List Wv} {ds : List PyData} (r : RWs X.K H m st.length vs ws) (e : allD ws = some ds) : RpA X.K H (Off m st.length) vs ds := by
  induction r generalizing ds with
  | nil => cases e; exact .nil
  | @cons v vs w ws r1 r2 ih =>
    cases w with
    | d x =>
      rw [allD_cons] at e
      cases q : allD ws with
      | none => rw [q] at e; cases e
      | some es =>
        rw [q] at e
        cases e
        exact .cons r1 (ih q)
    | r i => cases e
    | x a c d => cases e
theorem disp_post {f : List PyData → Rs Wv} {ws : List Wv} {Q : Wv → Sto → Prop} {R : Xc → Sto → Prop} (h : (match allD ws with | some ds => if ds.length ≤ 1000000 then f ds else .no | none => .no : Rs Wv).post Q R) :
    ∃ ds, allD ws = some ds ∧ ds.length ≤ 1000000 ∧ (f ds).post Q R := by
  split at h
  · split at h
    · exact ⟨_, by assumption, by assumption, h⟩
    · exact h.elim
  · exact h.elim
theorem de_tup {es : List Expr} {cs : En → Sto → Rs (List Wv)} {x1} (ha : DA X es cs) : DE X (.Tuple es x1 pos) (eTup cs) := by
  refine ⟨fun W tk => PE.imp (pe_tup (ha.pa W tk)) fun σ H Q ⟨m, env, st, S, R, hp⟩ => ?_⟩
  unfold eTup at hp
  rw [Rs.post_bind] at hp
  refine ⟨m, env, st, S, R, Rs.post_mono hp (fun ws st1 q vs H1 m1 f1 S1 r1 => ?_) fun _ _ q => q⟩
  obtain ⟨ds, e1, e2, q⟩ := disp_post (f := fun ds => .ok (.d (.tuple ds)) st1) q
  have ra := allD_rp r1 e1
  refine ⟨by rw [ra.len]; exact Nat.le_trans e2 line_lim, fun p hn => ?_⟩
  have g := grow_upd (o := .tup vs) hn
  exact q _ _ m1 (f1.trans (.same g)) (S1.grow g) (.tup (.inl upd_same) (ra.mv (Fol.same (m := m1) (n := st1.length) g).kp))
theorem de_lst {es : List Expr} {cs : En → Sto → Rs (List Wv)} (ha : DA X es cs) : DE X (.List es pos) (eLst cs) := by
  refine ⟨fun W tk => PE.imp (pe_lst (ha.pa W tk)) fun σ H Q ⟨m, env, st, S, R, hp⟩ => ?_⟩
  unfold eLst at hp
  rw [Rs.post_bind] at hp
  refine ⟨m, env, st, S, R, Rs.post_mono hp (fun ws st1 q vs H1 m1 f1 S1 r1 => ?_) fun _ _ q => q⟩
  obtain ⟨ds, e1, e2, q⟩ := disp_post (f := fun ds => .ok (.d (.list ds)) st1) q
  have ra := allD_rp r1 e1
  refine ⟨by rw [ra.len]; exact Nat.le_trans e2 line_lim, fun p hn => ?_⟩
  have g := grow_upd (o := .lst vs) hn
  exact q _ _ m1 (f1.trans (.same g)) (S1.grow g) (.lst (.inl ⟨upd_same, S1.fresh hn⟩) (ra.mv (Fol.same (m := m1) (n := st1.length) g).kp))
/-- a new object of the store -/
def mup (m : Mp) (n : Nat) (p : Addr) : Mp := ⟨fun i => if i = n then p else m.ix i, m.F⟩
theorem mup_old {n : Nat} {p : Addr} {i : Nat} (h : i < n) : (mup m n p).ix i = m.ix i := if_neg (by omega)
theorem mup_new {n : Nat} {p : Addr} : (mup m n p).ix n = p := if_pos rfl
theorem fol_new {n : Nat} {p : Addr} {o : HO} (hn : H p = none) : Fol m n H (mup m n p) (n + 1) (upd H p o) where
  tup a xs h := grow_upd hn a _ h
  frz a u x h := grow_upd hn a _ h
  rest a u _ h _ := grow_upd hn a _ h
  old i hi := mup_old hi
  new i h1 h2 := by
    have e : i = n := by omega
    rw [e, mup_new]
    exact nn_no hn
  le := Nat.le_succ n
  dom := domOf (grow_upd hn)
  eF _ _ := Iff.rfl
theorem Sim.new {K : Frg} {H : Hp} {m : Mp} {st : Sto} {p : Addr} {o : HO} {ob : Ob} (S : Sim K H m st) (hn : H p = none) (h : ObAt K (upd H p o) (mup m st.length p) (st.length + 1) p ob) : Sim K (upd H p o) (mup m st.length p) (st ++ [ob]) := by
  have f : Fol m st.length H (mup m st.length p) (st.length + 1) (upd H p o) := fol_new hn
  have hl : (st ++ [ob]).length = st.length + 1 := by simp
  refine ⟨fun i u e => ?_, fun i j hi hj e => ?_, fun a z => f.dom a (S.ff a z), fun i hi => ?_, S.tb.ext (grow_upd hn)⟩
  · rw [hl]
    by_cases q : i < st.length
    · rw [List.getElem?_append_left q] at e
      rw [mup_old q]
      exact (S.ob i u e).mv f fun x => grow_upd hn _ x
    · have e2 : i = st.length := by
        have := (List.getElem?_eq_some_iff.mp e).1
        rw [hl] at this
        omega
      subst e2
      simp at e
      subst e
      rw [mup_new]
      exact h
  · rw [hl] at hi hj
    have key : ∀ x, x < st.length → (mup m st.length p).ix x ≠ p := fun x hx z => by
      rw [mup_old hx] at z
      exact nn_no hn (z ▸ S.there hx)
    by_cases h1 : i < st.length
    · by_cases h2 : j < st.length
      · rw [mup_old h1, mup_old h2] at e
        exact S.inj i j h1 h2 e
      · have : j = st.length := by omega
        subst this
        rw [mup_new] at e
        exact absurd e (key i h1)
    · have : i = st.length := by omega
      subst this
      by_cases h2 : j < st.length
      · rw [mup_new] at e
        exact absurd e.symm (key j h2)
      · omega
  · rw [hl] at hi
    by_cases q : i < st.length
    · rw [mup_old q]; exact S.fi i q
    · have : i = st.length := by omega
      subst this
      rw [mup_new]
      exact fun z => nn_no hn (S.ff p z)
theorem de_newl {es : List Expr} {cs : En → Sto → Rs (List Wv)} (ha : DA X es cs) : DE X (.List es pos) (eNewL cs) := by
  refine ⟨fun W tk => PE.imp (pe_lst (ha.pa W tk)) fun σ H Q ⟨m, env, st, S, R, hp⟩ => ?_⟩
  unfold eNewL at hp
  rw [Rs.post_bind] at hp
  refine ⟨m, env, st, S, R, Rs.post_mono hp (fun ws st1 q vs H1 m1 f1 S1 r1 => ?_) fun _ _ q => q⟩
  obtain ⟨ds, e1, e2, q⟩ := disp_post (f := fun ds => .ok (.r st1.length) (st1 ++ [.lst ds])) q
  have ra := allD_rp r1 e1
  refine ⟨by rw [ra.len]; exact Nat.le_trans e2 line_lim, fun p hn => ?_⟩
  have f2 : Fol m1 st1.length H1 (mup m1 st1.length p) (st1.length + 1) (upd H1 p (.lst vs)) := fol_new hn
  have hl : (st1 ++ [Ob.lst ds]).length = st1.length + 1 := by simp
  refine q _ _ _ ?_ (S1.new hn ⟨vs, upd_same, ra.mv f2.kp⟩) ?_
  · rw [hl]; exact f1.trans f2
  · rw [hl]; exact ⟨Nat.lt_succ_self _, by rw [mup_new]⟩
theorem de_newd : DE X (.Dict [] [] pos) eNewD := by
  refine ⟨fun W tk => PE.imp pe_dnewK fun σ H Q ⟨m, env, st, S, R, hp⟩ => ?_⟩
  refine fun p hn => ?_
  have f2 : Fol m st.length H (mup m st.length p) (st.length + 1) (upd H p (.dK [])) := fol_new hn
  have hl : (st ++ [Ob.dct []]).length = st.length + 1 := by simp
  refine hp _ _ (mup m st.length p) ?_ (S.new hn ⟨[], upd_same, .nil⟩) ?_
  · rw [hl]; exact f2
  · rw [hl]; exact ⟨Nat.lt_succ_self _, by rw [mup_new]⟩
theorem de_newt : DE X (.Dict [] [] pos) eNewT := by
  refine ⟨fun W tk => PE.imp pe_dnewT fun σ H Q ⟨m, env, st, S, R, hp⟩ => ?_⟩
  refine fun p hn => ?_
  have f2 : Fol m st.length H (mup m st.length p) (st.length + 1) (upd H p (.dT [])) := fol_new hn
  have hl : (st ++ [Ob.dtt []]).length = st.length + 1 := by simp
  refine hp _ _ (mup m st.length p) ?_ (S.new hn ⟨[], upd_same, .nil⟩) ?_
  · rw [hl]; exact f2
  · rw [hl]; exact ⟨Nat.lt_succ_self _, by rw [mup_new]⟩
/-- a dict is pinned as it stands -/
theorem Inv.freeze {pins : List (Addr × Obj)} {σ : L2.St} {H : Hp} {s : Shared} {a : Addr} {u : HO} (I : Inv X pins σ H s) (h : H a = some u) (hu : (∃ ks, u = .dK ks) ∨ ∃ ks, u = .dT ks) : ∃ o, Inv X pins σ (upd H a (.frz o u)) s := by
  have ok : ObjOk X.prog X.w H s.heap a u := I.hok a u h
  obtain ⟨o, ho⟩ : ∃ o, s.heap.get? a = some o := by
    rcases hu with ⟨ks, rfl⟩ | ⟨ks, rfl⟩
    · obtain ⟨_, _, _, _, o, _, _, ho, _⟩ := (show ObjOk X.prog X.w H s.heap a (.dK ks) from ok)
      exact ⟨o, ho⟩
    · obtain ⟨_, _, _, _, o, _, _, ho, _⟩ := (show ObjOk X.prog X.w H s.heap a (.dT ks) from ok)
      exact ⟨o, ho⟩
  refine ⟨o, I.write (t' := s.toks) (x := a) (e := a) (h' := s.heap) (by rw [h]; rcases hu with ⟨ks, rfl⟩ | ⟨ks, rfl⟩ <;> exact True.intro) (.inl rfl) (fun _ _ _ q => q) ⟨o, ho⟩ ⟨ho, ?_⟩⟩
  rcases hu with ⟨ks, rfl⟩ | ⟨ks, rfl⟩
  · exact ok
  · obtain ⟨h1, h2, xs, h3, h4⟩ := (show ObjOk X.prog X.w H s.heap a (.dT ks) from ok)
    refine ⟨h1, h2, xs, ?_, h4⟩
    refine Paired.mono (fun p q z => ⟨z.1, ?_, z.2.2⟩) h3
    rw [upd_ne (fun e => by rw [e, h] at z; exact nomatch Option.some.inj z.2.1)]
    exact z.2.1
/-- a list is pinned as it stands -/
theorem Inv.freezeL {pins : List (Addr × Obj)} {σ : L2.St} {H : Hp} {s : Shared} {a : Addr} {xs : List V} (I : Inv X pins σ H s) (h : H a = some (.lst xs)) : ∃ o, Inv X pins σ (upd H a (.frz o (.lst xs))) s := by
  have ok : ObjOk X.prog X.w H s.heap a (.lst xs) := I.hok a _ h
  obtain ⟨_, _, _, _, ho⟩ := (show ObjOk X.prog X.w H s.heap a (.lst xs) from ok)
  exact ⟨_, I.write (t' := s.toks) (x := a) (e := a) (h' := s.heap) (by rw [h]; exact True.intro) (.inl rfl) (fun _ _ _ q => q) ⟨_, ho⟩ ⟨ho, ok⟩⟩
theorem pe_freeze {e : Expr} {t : TE} (h : PE X e t) : PE X e (fun σ H Q => t σ H fun v H1 => (∃ a u, v = .ref a ∧ H1 a = some u ∧ ((∃ ks, u = .dK ks) ∨ ∃ ks, u = .dT ks) ∧ ∀ o, Q v (upd H1 a (.frz o u)))) := ⟨fun pins s σ H Q I q =>
  thn (h.run pins s σ H _ I q) fun u s1 ⟨v, H1, I1, rv, a, w, ev, ha, hw, q1⟩ => by
    obtain ⟨o, J⟩ := Inv.freeze I1 ha hw
    exact ⟨v, _, J, rv, q1 o⟩⟩
theorem de_dic0 : DE X (.Dict [] [] pos) eDic0 := by
  refine ⟨fun W tk => PE.imp (pe_freeze pe_dnewK) fun σ H Q ⟨m, env, st, S, R, hp⟩ => ?_⟩
  refine fun p hn => ⟨p, .dK [], rfl, upd_same, .inl ⟨_, rfl⟩, fun o => ?_⟩
  have g := grow_upd (o := .frz o (.dK [])) hn
  rw [show upd (upd H p (.dK [])) p (.frz o (.dK [])) = upd H p (.frz o (.dK [])) from by funext b; by_cases z : b = p <;> simp [upd, z]]
  exact hp _ _ m (.same g) (S.grow g) (.dic upd_same .nil)
end
end

section
variable [Wtp] [Tbl]

section
variable {X : Cx} {pins : List (Addr × Obj)} {σ : L2.St} {H : Hp} {s : Shared}

/-! ## arithmetic -/
def bigOk (i j : Int) : Bool := decide (i.natAbs < 18446744073709551616) || decide (j.natAbs < 18446744073709551616)
def addD : PyData → PyData → Option PyData
  | .int i, .int j => some (.int (i + j))
  | .str x, .str y => if x.length + y.length ≤ 1000000 then some (.str (x ++ y)) else none
  | .tuple xs, .tuple ys => if xs.length + ys.length ≤ 1000000 then some (.tuple (xs ++ ys)) else none
  | .list xs, .list ys => if xs.length + ys.length ≤ 1000000 then some (.list (xs ++ ys)) else none
  | _, _ => none
def subD : PyData → PyData → Option PyData
  | .int i, .int j => some (.int (i - j))
  | _, _ => none
def mulD : PyData → PyData → Option PyData
  | .int i, .int j => if bigOk i j then some (.int (i * j)) else none
  | .tuple xs, .int k => if k = 1 then some (.tuple xs) else if 2 ≤ k ∧ k ≤ 1000 ∧ xs.length ≤ 1000 ∧ xs ≠ [] then some (.tuple (List.replicate k.toNat xs).flatten) else none
  | .list xs, .int k => if 0 ≤ k ∧ k ≤ 1000 ∧ xs.length ≤ 1000 then some (.list (List.replicate k.toNat xs).flatten) else none
  | _, _ => none
def divD : PyData → PyData → Option PyData
  | .int i, .int j => if 0 < j ∧ j < 1073741824 then some (.int (i / j)) else none
  | _, _ => none
def modD : PyData → PyData → Option PyData
  | .int i, .int j => if 0 < j then some (.int (i % j)) else none
  | _, _ => none
def powD : PyData → PyData → Option PyData
  | .int i, .int j => if 0 ≤ j ∧ j ≤ 1000 ∧ i.natAbs < 18446744073709551616 then some (.int (i ^ j.toNat)) else none
  | _, _ => none
def negD : PyData → Option PyData
  | .int i => some (.int (-i))
  | _ => none

theorem rout_here {Z : Addr → Prop} {r : PyData} {Q : VK} {v : V} (h : rOut X.K H Z r Q) (q : Rp X.K H Z v r) : Q v H := h v H (fun _ _ e => e) q
theorem rout_lst {Z : Addr → Prop} {ds : List PyData} {vs : List V} {Q : VK} (hz : ∀ a, H a = none → Z a) (h : rOut X.K H Z (.list ds) Q) (q : RpA X.K H Z vs ds) : ∀ p, H p = none → Q (.ref p) (upd H p (.lst vs)) := fun p hn =>
  h _ _ (grow_upd hn) (.lst (.inl ⟨upd_same, hz p hn⟩) (q.mv ⟨fun a xs e => grow_upd hn a _ e, fun a o u e => grow_upd hn a _ e, fun a o _ e z => ⟨grow_upd hn a _ e, z⟩⟩))
theorem rout_tup {Z : Addr → Prop} {ds : List PyData} {vs : List V} {Q : VK} (h : rOut X.K H Z (.tuple ds) Q) (q : RpA X.K H Z vs ds) : ∀ p, H p = none → Q (.ref p) (upd H p (.tup vs)) := fun p hn =>
  h _ _ (grow_upd hn) (.tup (.inl upd_same) (q.mv ⟨fun a xs e => grow_upd hn a _ e, fun a o u e => grow_upd hn a _ e, fun a o _ e z => ⟨grow_upd hn a _ e, z⟩⟩))

/-- list + list, whoever holds them -/
theorem op_catP : OpR X (binaryOp .Add) (fun x y H Q => ∃ l b xs zs, x = .ref l ∧ y = .ref b ∧ LsX X.K H l xs ∧ LsX X.K H b zs ∧ xs.length + zs.length ≤ sizeLine ∧ ∀ p, H p = none → Q (.ref p) (upd H p (.lst (xs ++ zs)))) := by
  intro pins s σ H x y v u Q I rx ry h
  obtain ⟨l, b, xs, zs, rfl, rfl, hH, hB, hz, q⟩ := h
  cases rx
  cases ry
  obtain ⟨its, n, r, e, _, l1⟩ := Inv.lsx I hH
  obtain ⟨its2, n2, r2, e2, _, l2⟩ := Inv.lsx I hB
  refine PySem.P.add_list e e2 ?_ (by rw [List.size_toArray, List.size_toArray]; omega)
  have ea : its.toArray ++ its2.toArray = (its ++ its2).toArray := by simp
  rw [ea]
  exact ⟨.ref _, _, I.lnew (t' := s.toks) (r.append r2) (by rw [List.length_append]; omega), rfl, q _ I.fresh⟩

theorem o_add : OpR X (binaryOp .Add) (rD X.K addD) := by
  intro pins s σ H x y v u Q I rx ry ⟨Z, d, e, r, hz, hd, he, hf, ho⟩
  unfold addD at hf
  split at hf
  · cases hf
    exact op_add pins s σ H x y v u Q I rx ry ⟨_, _, hd.int, he.int, rout_here ho (.int _)⟩
  · split at hf
    · cases hf
      exact op_add_str pins s σ H x y v u Q I rx ry ⟨_, _, hd.str, he.str, Nat.le_trans (by assumption) line_lim, rout_here ho (.str _)⟩
    · cases hf
  · split at hf
    · cases hf
      obtain ⟨a, vs, rfl, h1, h2⟩ := hd.tupT
      obtain ⟨b, ws, rfl, k1, k2⟩ := he.tupT
      have l1 := h2.len
      have l2 := k2.len
      refine op_catA pins s σ H _ _ v u Q I rx ry ⟨a, b, vs, ws, rfl, rfl, h1.sq, k1.sq, Nat.le_trans (by omega) line_lim, fun e => ?_, fun e1 e => ?_, fun _ _ => rout_tup ho (h2.app k2)⟩
      · subst e
        cases h2
        exact rout_here ho (.tup k1 k2)
      · subst e
        cases k2
        rw [List.append_nil] at ho
        exact rout_here ho (.tup h1 h2)
    · cases hf
  · split at hf
    · cases hf
      obtain ⟨a, vs, rfl, h1, h2⟩ := hd.lst
      obtain ⟨b, ws, rfl, k1, k2⟩ := he.lst
      have l1 := h2.len
      have l2 := k2.len
      exact op_catP pins s σ H _ _ v u Q I rx ry ⟨a, b, vs, ws, rfl, rfl, h1, k1, Nat.le_trans (by omega) line_lim, rout_lst hz ho (h2.app k2)⟩
    · cases hf
  · cases hf
theorem o_sub : OpR X (binaryOp .Sub) (rD X.K subD) := by
  intro pins s σ H x y v u Q I rx ry ⟨Z, d, e, r, hz, hd, he, hf, ho⟩
  unfold subD at hf
  split at hf
  · cases hf
    exact op_sub pins s σ H x y v u Q I rx ry ⟨_, _, hd.int, he.int, rout_here ho (.int _)⟩
  · cases hf
theorem cmul_of {i j : Int} (h : bigOk i j = true) : CMul i j := by
  unfold bigOk at h
  rw [Bool.or_eq_true, decide_eq_true_eq, decide_eq_true_eq] at h
  rcases h with h | h
  · exact .inl ⟨by omega, by omega⟩
  · exact .inr ⟨by omega, by omega⟩
theorem RpA.rep {K : Frg} {H : Hp} {Z : Addr → Prop} {vs : List V} {ds : List PyData} (h : RpA K H Z vs ds) : ∀ n : Nat, RpA K H Z (List.replicate n vs).flatten (List.replicate n ds).flatten
  | 0 => .nil
  | n + 1 => by
    rw [List.replicate_succ, List.replicate_succ, List.flatten_cons, List.flatten_cons]
    exact h.app (RpA.rep h n)
/-- list * int, whoever holds it -/
theorem op_repP : OpR X (binaryOp .Mult) (fun x y H Q => ∃ l k xs, x = .ref l ∧ y = .int k ∧ LsX X.K H l xs ∧ 0 ≤ k ∧ k ≤ 1000 ∧ xs.length ≤ 1000 ∧ ∀ p, H p = none → Q (.ref p) (upd H p (.lst (List.replicate k.toNat xs).flatten))) := by
  intro pins s σ H x y v u Q I rx ry h
  obtain ⟨l, k, xs, rfl, rfl, hH, h1, h2, hl, q⟩ := h
  cases rx
  obtain ⟨t, rfl⟩ := ry
  obtain ⟨its, n, r, e, _, l1⟩ := Inv.lsx I hH
  have line := line_lim
  have small : its.toArray.size * k.toNat ≤ 1000000 := by
    rw [List.size_toArray]
    exact Nat.le_trans (Nat.mul_le_mul (show its.length ≤ 1000 by omega) (show k.toNat ≤ 1000 by omega)) (by decide)
  have c1 : ¬ its.toArray.size * k.toNat > (2 ^ 63 - 1) / 8 := by omega
  have c2 : ¬ (!Builtin.List.listFitsIndex k) = true := by
    rw [fitsIndex_both (by omega) (by omega)]
    exact Bool.false_ne_true
  have c3 : ¬ Builtin.List.listTooLong (its.toArray.size * k.toNat) = true := by
    rw [notLongL (by omega)]
    exact Bool.false_ne_true
  have made : List.foldl (fun a b => a ++ b) #[] (List.replicate (if its.toArray.isEmpty = true then 0 else k.toNat) its.toArray) = (List.replicate k.toNat its).flatten.toArray := by
    rw [size_rep]
    cases its with
    | nil => simp
    | cons a r' => rw [if_neg (by simp)]
  have big : (List.replicate k.toNat xs).flatten.length ≤ sizeLine := by
    rw [PyProof.Rows.lm_len_rep_flat]
    exact Nat.le_trans (Nat.mul_le_mul (show k.toNat ≤ 1000 by omega) hl) (Nat.le_trans (by decide) line)
  refine wpAny_binaryOp_repeat_ref (T := "list") (U := "int") (by decide) ⟨_, e, rfl⟩ (fun s' => typeIs_int s' k t) noFill_list_mul F.fills_int_mul F.slot_int_rmul repeat_list F.slot_int_index.lookup ?_
  refine call_meets F.slot_int_rmul (typeIs_int s k t) F.entry_int_rmul (F.args_int_rmul_2 _ _) (int___rmul___int_list k t l its.toArray n) ⟨e, rfl, ⟨_, e, rfl⟩, ?_⟩
  refine call_meets F.slot_list_mul ⟨_, e, rfl⟩ F.entry_list_mul (F.args_list_mul_2 _ _) (AutoListH.list___mul___list_int_3 l its.toArray n k t c2 c1 c3) ⟨e, ?_⟩
  rw [made]
  exact ⟨.ref _, _, I.lnew (t' := s.toks) (r.rep k.toNat) big, rfl, q _ I.fresh⟩
theorem tuple_mul1 (l : Addr) (items : Array Value) (n : Nat) (dd : Option Addr) (sl : Array (Option Value)) (u : Tok) :
    Meets (Builtin.«tuple.__mul__» ⟨[.ref l, .int 1 u], []⟩) (fun _ R s => s.heap.get? l = some { cls := .type "tuple", dict := dd, data := .seq items n, slots := sl } ∧ R (.ok (.ret (Value.ref l))) s) :=
  .of_wp fun prog w A R s h => by
    obtain ⟨hp, g, d, tk, os⟩ := s
    obtain ⟨hl, h⟩ := h
    have f1 := AutoSeq1.idx_int
    have c1 : (items.isEmpty || (1 : Int) == 1) = true := by simp
    wp_walk using wpAny_loadPart' hl
    repeat (first
      | (refine wpAny_ite_false (decide_eq_false (by decide)) ?_; wp_walk using wpAny_loadPart' hl)
      | (refine wpAny_ite_true c1 ?_; wp_walk using wpAny_loadPart' hl))
    exact ⟨_, rfl, h⟩
theorem op_repT1 : OpR X (binaryOp .Mult) (fun x y H Q => ∃ l xs, x = .ref l ∧ y = .int 1 ∧ SqT X.K H l xs ∧ Q (.ref l) H) := by
  intro pins s σ H x y v u Q I rx ry h
  obtain ⟨l, xs, rfl, rfl, hT, q⟩ := h
  cases rx
  obtain ⟨t, rfl⟩ := ry
  obtain ⟨its, r, ⟨⟨cls, dd, data, sl⟩, ho, hc, n, hd⟩, hs⟩ := I.tuple hT
  simp only at hc hd
  subst hc hd
  refine wpAny_binaryOp_repeat_ref (T := "tuple") (U := "int") (by decide) ⟨_, ho, rfl⟩ (fun s' => typeIs_int s' 1 t) noFill_tuple_mul F.fills_int_mul F.slot_int_rmul repeat_tuple F.slot_int_index.lookup
    (call_meets F.slot_int_rmul (typeIs_int s 1 t) F.entry_int_rmul (F.args_int_rmul_2 _ _) (int_rmul_tuple 1 t l its.toArray n dd sl)
      ⟨ho, rfl, ⟨_, ho, rfl⟩, call_meets F.slot_tuple_mul ⟨_, ho, rfl⟩ F.entry_tuple_mul (F.args_tuple_mul_2 _ _) (tuple_mul1 l its.toArray n dd sl t) ⟨ho, ?_⟩⟩)
  exact ⟨.ref l, H, I, rfl, q⟩
theorem o_mul : OpR X (binaryOp .Mult) (rD X.K mulD) := by
  intro pins s σ H x y v u Q I rx ry ⟨Z, d, e, r, hz, hd, he, hf, ho⟩
  unfold mulD at hf
  split at hf
  · split at hf
    · cases hf
      exact op_mul pins s σ H x y v u Q I rx ry ⟨_, _, hd.int, he.int, cmul_of (by assumption), rout_here ho (.int _)⟩
    · cases hf
  · split at hf
    · rename_i h
      cases hf
      subst h
      have ey := he.int
      subst ey
      obtain ⟨a, vs, rfl, h1, h2⟩ := hd.tupT
      exact op_repT1 pins s σ H _ _ v u Q I rx ry ⟨a, vs, rfl, rfl, h1.sq, rout_here ho (.tup h1 h2)⟩
    rename_i hk1
    split at hf
    · rename_i h
      cases hf
      obtain ⟨a, vs, rfl, h1, h2⟩ := hd.tup
      have l1 := h2.len
      refine op_repT pins s σ H _ _ v u Q I rx ry ⟨a, _, vs, rfl, he.int, h1, fun e => ?_, h.1, h.2.1, by omega, rout_tup ho (h2.rep _)⟩
      subst e
      cases h2
      exact h.2.2.2 rfl
    · cases hf
  · split at hf
    · rename_i h
      cases hf
      obtain ⟨a, vs, rfl, h1, h2⟩ := hd.lst
      have l1 := h2.len
      exact op_repP pins s σ H _ _ v u Q I rx ry ⟨a, _, vs, rfl, he.int, h1, h.1, h.2.1, by omega, rout_lst hz ho (h2.rep _)⟩
    · cases hf
  · cases hf
theorem o_div : OpR X (binaryOp .FloorDiv) (rD X.K divD) := by
  intro pins s σ H x y v u Q I rx ry ⟨Z, d, e, r, hz, hd, he, hf, ho⟩
  unfold divD at hf
  split at hf
  · split at hf
    · cases hf
      exact op_fdiv pins s σ H x y v u Q I rx ry ⟨_, _, hd.int, he.int, by assumption, rout_here ho (.int _)⟩
    · cases hf
  · cases hf
theorem o_mod : OpR X (binaryOp .Mod) (rD X.K modD) := by
  intro pins s σ H x y v u Q I rx ry ⟨Z, d, e, r, hz, hd, he, hf, ho⟩
  unfold modD at hf
  split at hf
  · split at hf
    · cases hf
      exact op_mod pins s σ H x y v u Q I rx ry ⟨_, _, hd.int, he.int, by assumption, rout_here ho (.int _)⟩
    · cases hf
  · cases hf
theorem o_pow : OpR X (binaryOp .Pow) (rD X.K powD) := by
  intro pins s σ H x y v u Q I rx ry ⟨Z, d, e, r, hz, hd, he, hf, ho⟩
  unfold powD at hf
  split at hf
  · split at hf
    · rename_i h
      cases hf
      exact op_pow pins s σ H x y v u Q I rx ry ⟨_, _, hd.int, he.int, ⟨h.1, by omega, by have := h.2.2; omega⟩, rout_here ho (.int _)⟩
    · cases hf
  · cases hf
theorem o_neg : UnR X (unaryOp .USub) (rU1 X.K negD) := by
  intro pins s σ H x v Q I rx ⟨Z, d, r, hz, hd, hf, ho⟩
  unfold negD at hf
  split at hf
  · cases hf
    exact un_neg pins s σ H x v Q I rx ⟨_, hd.int, rout_here ho (.int _)⟩
  · cases hf

end
end

section
variable [Wtp] [Tbl]

section
variable {X : Cx} {pins : List (Addr × Obj)} {σ : L2.St} {H : Hp} {s : Shared}
/-! ## comparisons -/
def cmpOk (a b : PyData) : Bool := a.plain && (b.plain && decide (min a.depth b.depth ≤ 40))
def eqD (a b : PyData) : Option PyData := if cmpOk a b then some (.bool (PyData.eqv a b)) else none
def neD (a b : PyData) : Option PyData := if cmpOk a b then some (.bool (!PyData.eqv a b)) else none
def isNone : PyData → Bool
  | .none => true
  | _ => false
def ltD' (a b : PyData) : Bool := PySem.W.alike a b && (!isNone a && decide (min a.depth b.depth ≤ 40))
def ltD : PyData → PyData → Option PyData
  | .int i, .int j => some (.bool (decide (i < j)))
  | a, b => if ltD' a b then some (.bool (PySem.W.dataLt a b)) else none
def gtD : PyData → PyData → Option PyData
  | .int i, .int j => some (.bool (decide (j < i)))
  | a, b => if ltD' a b then some (.bool (PySem.W.dataLt b a)) else none
def leD : PyData → PyData → Option PyData
  | .int i, .int j => some (.bool (decide (i ≤ j)))
  | a, b => if ltD' a b then some (.bool (!PySem.W.dataLt b a)) else none
def geD : PyData → PyData → Option PyData
  | .int i, .int j => some (.bool (decide (j ≤ i)))
  | a, b => if ltD' a b then some (.bool (!PySem.W.dataLt a b)) else none
def isND (a b : PyData) : Option PyData := if isNone b then some (.bool (isNone a)) else none
def ntND (a b : PyData) : Option PyData := if isNone b then some (.bool (!isNone a)) else none

theorem rout_bl {Z : Addr → Prop} {b : Bool} {Q : VK} {I : Inv X pins σ H s} (h : rOut X.K H Z (.bool b) Q) : EP X pins σ Q (.bool b) s := ⟨.bl b, H, I, rfl, rout_here h (.bl b)⟩
theorem room_eq {k n : Nat} {A : Around} (hr : L2H.RoomH k A) (h : n ≤ 60) : A.units + n < cLine := by have := hr.un; omega
theorem o_eq {k : Nat} (hr : L2H.RoomH k X.A) : OpR X (compareOp .Eq) (rD X.K eqD) := by
  intro pins s σ H x y v u Q I rx ry ⟨Z, d, e, r, hz, hd, he, hf, ho⟩
  unfold eqD at hf
  split at hf
  · rename_i h
    cases hf
    unfold cmpOk at h
    simp only [Bool.and_eq_true, decide_eq_true_eq] at h
    obtain ⟨as, r1⟩ := Inv.rt I hd rx
    obtain ⟨bs, r2⟩ := Inv.rt I he ry
    exact PySem.SeqAt.eq_plain r1 r2 h.1 h.2.1 (room_eq hr (by omega)) (rout_bl (I := I) ho)
  · cases hf
theorem o_ne {k : Nat} (hr : L2H.RoomH k X.A) : OpR X (compareOp .NotEq) (rD X.K neD) := by
  intro pins s σ H x y v u Q I rx ry ⟨Z, d, e, r, hz, hd, he, hf, ho⟩
  unfold neD at hf
  split at hf
  · rename_i h
    cases hf
    unfold cmpOk at h
    simp only [Bool.and_eq_true, decide_eq_true_eq] at h
    obtain ⟨as, r1⟩ := Inv.rt I hd rx
    obtain ⟨bs, r2⟩ := Inv.rt I he ry
    exact PySem.SeqAt.ne_plain r1 r2 h.1 h.2.1 (room_eq hr (by omega)) (rout_bl (I := I) ho)
  · cases hf
theorem ltD_of {a b : PyData} (h : ltD' a b = true) : PySem.W.alike a b = true ∧ a ≠ .none ∧ min a.depth b.depth ≤ 40 := by
  unfold ltD' at h
  simp only [Bool.and_eq_true, decide_eq_true_eq, Bool.not_eq_true'] at h
  refine ⟨h.1, fun e => ?_, h.2.2⟩
  subst e
  exact absurd h.2.1 (by decide)
theorem o_lt {k : Nat} (hr : L2H.RoomH k X.A) : OpR X (compareOp .Lt) (rD X.K ltD) := by
  intro pins s σ H x y v u Q I rx ry ⟨Z, d, e, r, hz, hd, he, hf, ho⟩
  unfold ltD at hf
  split at hf
  · cases hf
    exact op_lt pins s σ H x y v u Q I rx ry ⟨_, _, hd.int, he.int, rout_here ho (.bl _)⟩
  · split at hf
    · rename_i h
      cases hf
      obtain ⟨h1, h2, h3⟩ := ltD_of h
      obtain ⟨as, r1⟩ := Inv.rt I hd rx
      obtain ⟨bs, r2⟩ := Inv.rt I he ry
      exact PySem.W.lt_data r1 r2 h1 h2 (room_eq hr (by omega)) (rout_bl (I := I) ho)
    · cases hf
theorem o_gt {k : Nat} (hr : L2H.RoomH k X.A) : OpR X (compareOp .Gt) (rD X.K gtD) := by
  intro pins s σ H x y v u Q I rx ry ⟨Z, d, e, r, hz, hd, he, hf, ho⟩
  unfold gtD at hf
  split at hf
  · cases hf
    exact op_gt pins s σ H x y v u Q I rx ry ⟨_, _, hd.int, he.int, rout_here ho (.bl _)⟩
  · split at hf
    · rename_i h
      cases hf
      obtain ⟨h1, h2, h3⟩ := ltD_of h
      obtain ⟨as, r1⟩ := Inv.rt I hd rx
      obtain ⟨bs, r2⟩ := Inv.rt I he ry
      exact PySem.W.gt_data r1 r2 h1 h2 (room_eq hr (by omega)) (rout_bl (I := I) ho)
    · cases hf
theorem o_le {k : Nat} (hr : L2H.RoomH k X.A) : OpR X (compareOp .LtE) (rD X.K leD) := by
  intro pins s σ H x y v u Q I rx ry ⟨Z, d, e, r, hz, hd, he, hf, ho⟩
  unfold leD at hf
  split at hf
  · cases hf
    exact op_le pins s σ H x y v u Q I rx ry ⟨_, _, hd.int, he.int, rout_here ho (.bl _)⟩
  · split at hf
    · rename_i h
      cases hf
      obtain ⟨h1, h2, h3⟩ := ltD_of h
      obtain ⟨as, r1⟩ := Inv.rt I hd rx
      obtain ⟨bs, r2⟩ := Inv.rt I he ry
      exact PySem.W.le_data r1 r2 h1 h2 (room_eq hr (by omega)) (rout_bl (I := I) ho)
    · cases hf
theorem o_ge {k : Nat} (hr : L2H.RoomH k X.A) : OpR X (compareOp .GtE) (rD X.K geD) := by
  intro pins s σ H x y v u Q I rx ry ⟨Z, d, e, r, hz, hd, he, hf, ho⟩
  unfold geD at hf
  split at hf
  · cases hf
    exact op_ge pins s σ H x y v u Q I rx ry ⟨_, _, hd.int, he.int, rout_here ho (.bl _)⟩
  · split at hf
    · rename_i h
      cases hf
      obtain ⟨h1, h2, h3⟩ := ltD_of h
      obtain ⟨as, r1⟩ := Inv.rt I hd rx
      obtain ⟨bs, r2⟩ := Inv.rt I he ry
      exact PySem.W.ge_data r1 r2 h1 h2 (room_eq hr (by omega)) (rout_bl (I := I) ho)
    · cases hf
theorem isNone_v {Z : Addr → Prop} {x : V} {d : PyData} (h : RT X.K H Z x d) : decide (x = .non) = isNone d := by
  cases d with
  | none => rw [h.non]; rfl
  | bool b => rw [h.bl]; rfl
  | int i => rw [h.int]; rfl
  | str x => rw [h.str]; rfl
  | list xs => obtain ⟨a, vs, rfl, _⟩ := h.lst; rfl
  | tuple xs => obtain ⟨a, vs, rfl, _⟩ := h.tup; rfl
  | dict xs => obtain ⟨a, rfl, _⟩ := h.dic; rfl
theorem o_isN : OpR X (compareOp .Is) (rD X.K isND) := by
  intro pins s σ H x y v u Q I rx ry ⟨Z, d, e, r, hz, hd, he, hf, ho⟩
  unfold isND at hf
  split at hf
  · rename_i h
    cases hf
    have h2 := isNone_v he
    rw [h, decide_eq_true_eq] at h2
    exact op_isN pins s σ H x y v u Q I rx ry ⟨h2, by rw [isNone_v hd]; exact rout_here ho (.bl _)⟩
  · cases hf
theorem o_ntN : OpR X (compareOp .IsNot) (rD X.K ntND) := by
  intro pins s σ H x y v u Q I rx ry ⟨Z, d, e, r, hz, hd, he, hf, ho⟩
  unfold ntND at hf
  split at hf
  · rename_i h
    cases hf
    have h2 := isNone_v he
    rw [h, decide_eq_true_eq] at h2
    exact op_notN pins s σ H x y v u Q I rx ry ⟨h2, by rw [isNone_v hd]; exact rout_here ho (.bl _)⟩
  · cases hf

/-! ## in, not in -/
def inOk (d : PyData) (xs : List PyData) : Bool := d.plain && (PyData.plainAll xs && decide (min (PyData.depthAll xs) d.depth ≤ 40))
def hasKey (es : List (PyData × PyData)) (k : Key) : Bool := es.any fun e => decide (keyD e.1 = some k)
def kindK : List (PyData × PyData) → Bool
  | [] => true
  | (c, _) :: _ => (keyD c).isSome
def kindT : List (PyData × PyData) → Bool
  | [] => true
  | (c, _) :: _ => (tkD c).isSome
/-- a look-up of a tuple -/
def dLookT (es : List (PyData × PyData)) (k : List Key) : Option PyData := (es.find? fun e => decide (tkD e.1 = some k)).map (·.2)
def inB (d : PyData) : PyData → Option Bool
  | .list xs => if inOk d xs then some (xs.any fun y => PyData.eqv y d) else none
  | .tuple xs => if inOk d xs then some (xs.any fun y => PyData.eqv y d) else none
  | .dict es => match keyD d with
    | some k => if kindK es = true then some (hasKey es k) else none
    | none => match tkD d with
      | some ks => if kindT es = true then some (dLookT es ks).isSome else none
      | none => none
  | .str z => match d with
    | .str x => some (!(Builtin.Str.occurrences z x 0 z.length 1).isEmpty)
    | _ => none
  | _ => none
def inD (d c : PyData) : Option PyData := (inB d c).map .bool
def niD (d c : PyData) : Option PyData := (inB d c).map fun b => .bool (!b)
theorem inOk_of {d : PyData} {xs : List PyData} (h : inOk d xs = true) : d.plain = true ∧ PyData.plainAll xs = true ∧ min (PyData.depthAll xs) d.depth ≤ 40 := by
  unfold inOk at h
  simp only [Bool.and_eq_true, decide_eq_true_eq] at h
  exact ⟨h.1, h.2.1, h.2.2⟩
theorem keyD_v {Z : Addr → Prop} {x : V} {d : PyData} {k : Key} (h : RT X.K H Z x d) (e : keyD d = some k) : x = kV k := by
  cases d with
  | int i => cases e; exact h.int
  | str y => cases e; exact h.str
  | _ => cases e
/-- a dict's look-up -/
def dLook (es : List (PyData × PyData)) (k : Key) : Option PyData := (es.find? fun e => decide (keyD e.1 = some k)).map (·.2)
theorem dLook_rp {Z : Addr → Prop} {ks : List (Key × V)} {es : List (PyData × PyData)} (k : Key) (h : RpK X.K H Z ks es) :
    (∃ v d, valV ks k = some v ∧ dLook es k = some d ∧ Rp X.K H Z v d) ∨ (valV ks k = none ∧ dLook es k = none) := by
  induction ks generalizing es with
  | nil => cases h; exact .inr ⟨rfl, rfl⟩
  | cons p ks ih =>
    cases h with
    | @cons k0 v _ c d es h0 h1 h2 =>
      by_cases e : k0 = k
      · refine .inl ⟨v, d, valV_pos e, ?_, h1⟩
        unfold dLook
        rw [List.find?_cons_of_pos (by rw [h0, e]; simp)]
        rfl
      · have e2 : dLook ((c, d) :: es) k = dLook es k := by
          unfold dLook
          rw [List.find?_cons_of_neg (by rw [h0]; simpa using e)]
        rw [valV_neg (p := (k0, v)) e, e2]
        exact ih h2
theorem hasKey_look (es : List (PyData × PyData)) (k : Key) : hasKey es k = (dLook es k).isSome := by
  unfold hasKey dLook
  rw [Option.isSome_map, List.isSome_find?]
theorem valV_has {Z : Addr → Prop} {ks : List (Key × V)} {es : List (PyData × PyData)} (k : Key) (h : RpK X.K H Z ks es) : (valV ks k).isSome = hasKey es k := by
  rw [hasKey_look]
  rcases dLook_rp k h with ⟨v, d, e1, e2, _⟩ | ⟨e1, e2⟩
  · rw [e1, e2]; rfl
  · rw [e1, e2]; rfl
theorem tkD_keyD {c : PyData} {k : List Key} (h : tkD c = some k) : keyD c = none := by cases c <;> first | rfl | cases h
theorem dLookT_rp {Z : Addr → Prop} {ks : List (List Key × V)} {es : List (PyData × PyData)} (k : List Key) (h : RpT X.K H Z ks es) :
    (∃ v d, valV ks k = some v ∧ dLookT es k = some d ∧ Rp X.K H Z v d) ∨ (valV ks k = none ∧ dLookT es k = none) := by
  induction ks generalizing es with
  | nil => cases h; exact .inr ⟨rfl, rfl⟩
  | cons p ks ih =>
    cases h with
    | @cons k0 v _ c d es h0 h1 h2 =>
      by_cases e : k0 = k
      · refine .inl ⟨v, d, valV_pos e, ?_, h1⟩
        unfold dLookT
        rw [List.find?_cons_of_pos (by rw [h0, e]; simp)]
        rfl
      · have e2 : dLookT ((c, d) :: es) k = dLookT es k := by
          unfold dLookT
          rw [List.find?_cons_of_neg (by rw [h0]; simpa using e)]
        rw [valV_neg (p := (k0, v)) e, e2]
        exact ih h2
theorem valV_hasT {Z : Addr → Prop} {ks : List (List Key × V)} {es : List (PyData × PyData)} (k : List Key) (h : RpT X.K H Z ks es) : (valV ks k).isSome = (dLookT es k).isSome := by
  rcases dLookT_rp k h with ⟨v, d, e1, e2, _⟩ | ⟨e1, e2⟩
  · rw [e1, e2]; rfl
  · rw [e1, e2]; rfl
theorem dLook_T {Z : Addr → Prop} {ks : List (List Key × V)} {es : List (PyData × PyData)} (k : Key) (h : RpT X.K H Z ks es) : dLook es k = none := by
  induction ks generalizing es with
  | nil => cases h; rfl
  | cons p ks ih =>
    cases h with
    | @cons k0 v _ c d es h0 h1 h2 =>
      unfold dLook
      rw [List.find?_cons_of_neg (by rw [tkD_keyD h0]; simp)]
      exact ih h2
theorem dLookT_K {Z : Addr → Prop} {ks : List (Key × V)} {es : List (PyData × PyData)} (k : List Key) (h : RpK X.K H Z ks es) : dLookT es k = none := by
  induction ks generalizing es with
  | nil => cases h; rfl
  | cons p ks ih =>
    cases h with
    | @cons k0 v _ c d es h0 h1 h2 =>
      have n : tkD c = none := by cases c <;> first | rfl | cases h0
      unfold dLookT
      rw [List.find?_cons_of_neg (by rw [n]; simp)]
      exact ih h2
/-- a key that is a tuple -/
theorem tkD_v {Z : Addr → Prop} {x : V} {d : PyData} {k : List Key} (h : RT X.K H Z x d) (e : tkD d = some k) : ∃ b, x = .ref b ∧ SqT X.K H b (k.map kV) := by
  cases d with
  | tuple ds =>
    obtain ⟨b, vs, rfl, h1, h2⟩ := h.tup
    have : ∀ {vs : List V} {ds : List PyData} {k : List Key}, RpA X.K H Z vs ds → keysD ds = some k → vs = k.map kV := by
      intro vs ds
      induction ds generalizing vs with
      | nil => intro k r e; cases e; cases r; rfl
      | cons d ds ih =>
        intro k r e
        unfold keysD at e
        split at e
        · rename_i k0 ks e1 e2
          cases e
          cases r with
          | cons r1 r2 => rw [List.map_cons, ih r2 e2, keyD_v (Z := Z) (.inl r1) e1]
        · cases e
    rw [this h2 (show keysD ds = some k from e)] at h1
    exact ⟨b, rfl, h1⟩
  | _ => cases e
theorem key_ofS (I : Inv X pins σ H s) {b : Addr} {ks : List Key} (h : SqT X.K H b (ks.map kV)) : (tupleKind (mixKind X.prog X.w)).is s.heap ks b := by
  obtain ⟨its, rv, ⟨o, ho, hc, n, hd⟩, _⟩ := I.tuple h
  exact ⟨o, its.toArray, n, ho, hc, hd, by simpa using items_are rv⟩
theorem dkT_k {Z : Addr → Prop} {a : Addr} {es : List (PyData × PyData)} (I : Inv X pins σ H s) (h : DkT X.K H Z a es) (hk : kindK es = true) : (a == sysModules) = false ∧ ∃ kvs vs, RpK X.K H Z kvs es ∧ KV kvs vs ∧ s.heap.DictOf (mixKind X.prog X.w) a vs := by
  rcases h with ⟨ks, h1, h2⟩ | ⟨ks, h1, h2⟩
  · obtain ⟨_, hd, vs, rel, dd⟩ := dk_rd I.hok h1
    exact ⟨hd, ks, vs, h2, rel, dd⟩
  · cases h2 with
    | nil =>
      obtain ⟨_, hd, xs, r, o, ents, ep, ho, hc, he, hl, _⟩ := (show ObjOk X.prog X.w H s.heap a (.dT []) from h1.ok I.hok)
      cases r
      have e0 : ents = #[] := by
        have : ents.toList = [] := hl
        simpa using this
      subst e0
      exact ⟨hd, [], [], .nil, .nil, o, #[], ep, ho, hc, he, fun e he2 => absurd he2 (by simp), .nil, List.nodup_nil⟩
    | @cons k v kvs c d es h0 _ _ =>
      have hk : (keyD c).isSome = true := hk
      rw [tkD_keyD h0] at hk
      cases hk
theorem dkT_t {Z : Addr → Prop} {a : Addr} {es : List (PyData × PyData)} (I : Inv X pins σ H s) (h : DkT X.K H Z a es) (hk : kindT es = true) : (a == sysModules) = false ∧ ∃ kvs xs, RpT X.K H Z kvs es ∧ KT H kvs xs ∧ s.heap.DictOfH (tupleKind (mixKind X.prog X.w)) a xs := by
  rcases h with ⟨ks, h1, h2⟩ | ⟨ks, h1, h2⟩
  · cases h2 with
    | nil =>
      obtain ⟨_, hd, vs, rel, o, ents, ep, ho, hc, he, _, hp, _⟩ := (show ObjOk X.prog X.w H s.heap a (.dK []) from h1.ok I.hok)
      cases rel
      have e0 : ents.toList = [] := by generalize ents.toList = l at hp; cases hp; rfl
      exact ⟨hd, [], [], .nil, .nil, o, ents, ep, ho, hc, he, e0, fun x hx => absurd hx List.not_mem_nil, List.nodup_nil⟩
    | @cons k v kvs c d es h0 _ _ =>
      have hk : (tkD c).isSome = true := hk
      have n : tkD c = none := by cases c <;> first | rfl | cases h0
      rw [n] at hk
      cases hk
  · obtain ⟨_, hd, xs, rel, dd⟩ := dt_rd I.hok h1
    exact ⟨hd, ks, xs, h2, rel, dd⟩
theorem o_in {k : Nat} (hr : L2H.RoomH k X.A) : OpR X (compareOp .In) (rD X.K inD) := by
  intro pins s σ H x y v u Q I rx ry ⟨Z, d, e, r, hz, hd, he, hf, ho⟩
  unfold inD at hf
  cases q : inB d e with
  | none => rw [q] at hf; cases hf
  | some b =>
    rw [q] at hf
    cases hf
    unfold inB at q
    split at q
    · split at q
      · rename_i h
        cases q
        obtain ⟨h1, h2, h3⟩ := inOk_of h
        obtain ⟨as, r1⟩ := Inv.rt I hd rx
        obtain ⟨bs, r2⟩ := Inv.rt I he ry
        exact PySem.SeqAt.in_list_data r2 r1 h2 h1 (by have := room_eq hr (show 60 ≤ 60 by decide); omega) (rout_bl (I := I) ho)
      · cases q
    · split at q
      · rename_i h
        cases q
        obtain ⟨h1, h2, h3⟩ := inOk_of h
        obtain ⟨as, r1⟩ := Inv.rt I hd rx
        obtain ⟨bs, r2⟩ := Inv.rt I he ry
        exact PySem.SeqAt.in_tuple_data r2 r1 h2 h1 (by have := room_eq hr (show 60 ≤ 60 by decide); omega) (rout_bl (I := I) ho)
      · cases q
    · split at q
      · rename_i kk hk
        split at q
        · rename_i kd
          cases q
          obtain ⟨a, rfl, h1⟩ := he.dic
          cases ry
          have e1 := keyD_v hd hk
          subst e1
          obtain ⟨hsm, kvs, vs, h2, rel, dd⟩ := dkT_k I h1 kd
          refine wpAny_in_of (kV_is rx) hsm dd.mapOf ?_
          rw [← (rel.val kk).isSome_eq, valV_has kk h2]
          exact ⟨.bl _, H, I.tok _, rfl, rout_here ho (.bl _)⟩
        · cases q
      · split at q
        · rename_i ks hk
          split at q
          · rename_i kd
            cases q
            obtain ⟨a, rfl, h1⟩ := he.dic
            cases ry
            obtain ⟨b, rfl, h3⟩ := tkD_v hd hk
            cases rx
            obtain ⟨hsm, kvs, xs, h2, rel, dd⟩ := dkT_t I h1 kd
            refine wpAny_in_heap (tupleKind_room_in1 (room_eq hr (show 1 ≤ 60 by decide))) (key_ofS I h3) hsm dd ?_
            have q := (rel.val ks).isSome_eq
            rw [Option.isSome_map] at q
            rw [← q, valV_hasT ks h2]
            exact ⟨.bl _, H, I.tok _, rfl, rout_here ho (.bl _)⟩
          · cases q
        · cases q
    · split at q
      · cases q
        exact op_in_str pins s σ H x y v u Q I rx ry ⟨_, _, hd.str, he.str, rout_here ho (.bl _)⟩
      · cases q
    · cases q
theorem o_ni {k : Nat} (hr : L2H.RoomH k X.A) : OpR X (compareOp .NotIn) (rD X.K niD) := by
  intro pins s σ H x y v u Q I rx ry ⟨Z, d, e, r, hz, hd, he, hf, ho⟩
  unfold niD at hf
  cases q : inB d e with
  | none => rw [q] at hf; cases hf
  | some b =>
    rw [q] at hf
    cases hf
    unfold inB at q
    split at q
    · split at q
      · rename_i h
        cases q
        obtain ⟨h1, h2, h3⟩ := inOk_of h
        obtain ⟨as, r1⟩ := Inv.rt I hd rx
        obtain ⟨bs, r2⟩ := Inv.rt I he ry
        exact PySem.SeqAt.notIn_list_data r2 r1 h2 h1 (by have := room_eq hr (show 60 ≤ 60 by decide); omega) (rout_bl (I := I) ho)
      · cases q
    · split at q
      · rename_i h
        cases q
        obtain ⟨h1, h2, h3⟩ := inOk_of h
        obtain ⟨as, r1⟩ := Inv.rt I hd rx
        obtain ⟨bs, r2⟩ := Inv.rt I he ry
        exact PySem.SeqAt.notIn_tuple_data r2 r1 h2 h1 (by have := room_eq hr (show 60 ≤ 60 by decide); omega) (rout_bl (I := I) ho)
      · cases q
    · split at q
      · rename_i kk hk
        split at q
        · rename_i kd
          cases q
          obtain ⟨a, rfl, h1⟩ := he.dic
          cases ry
          have e1 := keyD_v hd hk
          subst e1
          obtain ⟨hsm, kvs, vs, h2, rel, dd⟩ := dkT_k I h1 kd
          refine wpAny_notIn_of (kV_is rx) hsm dd.mapOf ?_
          rw [← (rel.val kk).isSome_eq, valV_has kk h2]
          exact ⟨.bl _, H, I.tok _, rfl, rout_here ho (.bl _)⟩
        · cases q
      · split at q
        · rename_i ks hk
          split at q
          · rename_i kd
            cases q
            obtain ⟨a, rfl, h1⟩ := he.dic
            cases ry
            obtain ⟨b, rfl, h3⟩ := tkD_v hd hk
            cases rx
            obtain ⟨hsm, kvs, xs, h2, rel, dd⟩ := dkT_t I h1 kd
            refine wpAny_notIn_heap (tupleKind_room_in1 (room_eq hr (show 1 ≤ 60 by decide))) (key_ofS I h3) hsm dd ?_
            have q := (rel.val ks).isSome_eq
            rw [Option.isSome_map] at q
            rw [← q, valV_hasT ks h2]
            exact ⟨.bl _, H, I.tok _, rfl, rout_here ho (.bl _)⟩
          · cases q
        · cases q
    · split at q
      · cases q
        exact op_notin_str pins s σ H x y v u Q I rx ry ⟨_, _, hd.str, he.str, rout_here ho (.bl _)⟩
      · cases q
    · cases q

/-! ## subscripts, slices -/
def atD {α : Type} (xs : List α) (i : Int) : Option α := (ixN xs.length i).bind fun j => xs[j]?
def ixD : PyData → PyData → Option PyData
  | .list xs, .int i => atD xs i
  | .tuple xs, .int i => atD xs i
  | .str z, .int i => if z.length ≤ 1000000 then (atD z.cps.toList i).map fun c => .str ⟨#[c]⟩ else none
  | .dict es, k => match keyD k with
    | some k => dLook es k
    | none => match tkD k with
      | some ks => dLookT es ks
      | none => none
  | _, _ => none
theorem atI_rp {Z : Addr → Prop} {vs : List V} {ds : List PyData} {i : Int} {d : PyData} (h : RpA X.K H Z vs ds) (e : atD ds i = some d) : ∃ v, atI vs i = some v ∧ Rp X.K H Z v d := by
  unfold atD at e
  rw [← h.len] at e
  unfold atI
  cases q : ixN vs.length i with
  | none => rw [q] at e; cases e
  | some j =>
    rw [q] at e
    exact h.get (i := j) e
theorem o_ix {k : Nat} (hr : L2H.RoomH k X.A) : IxR X (rD X.K ixD) := by
  intro val sli pins s σ H x y v u Q I rx ry ⟨Z, d, e, r, hz, hd, he, hf, ho⟩ hs
  unfold ixD at hf
  split at hf
  · obtain ⟨a, vs, rfl, h1, h2⟩ := hd.lst
    obtain ⟨w, hw, rw'⟩ := atI_rp h2 hf
    exact ix_list val sli pins s σ H _ y v u Q I rx ry ⟨a, vs, _, w, rfl, he.int, h1.sq, hw, rout_here ho rw'⟩ hs
  · obtain ⟨a, vs, rfl, h1, h2⟩ := hd.tup
    obtain ⟨w, hw, rw'⟩ := atI_rp h2 hf
    exact ix_tup val sli pins s σ H _ y v u Q I rx ry ⟨a, vs, _, w, rfl, he.int, h1, hw, rout_here ho rw'⟩ hs
  · split at hf
    · rename_i z i hl
      cases q : atD z.cps.toList i with
      | none => rw [q] at hf; cases hf
      | some c =>
        rw [q] at hf
        cases hf
        exact ix_str val sli pins s σ H x y v u Q I rx ry ⟨_, _, c, hd.str, he.int, Nat.le_trans hl line_lim, q, rout_here ho (.str _)⟩ hs
    · cases hf
  · split at hf
    · rename_i kk hk
      obtain ⟨a, rfl, h1⟩ := hd.dic
      cases rx
      have e1 := keyD_v he hk
      subst e1
      rcases h1 with ⟨ks, h1, h2⟩ | ⟨ks, h1, h2⟩
      · rcases dLook_rp kk h2 with ⟨w, d', e1, e2, rw'⟩ | ⟨e1, e2⟩
        · rw [e2] at hf
          cases hf
          have g : DGet H a (kV kk) (some w) := by rw [← e1]; exact .inl ⟨_, _, h1, rfl, rfl⟩
          exact tail_any (dict_typeIs I g) PySem.F.slot_dict_getitem.lookup (d_getItem (room_eq hr (show 1 ≤ 60 by decide)) I g ry fun w' s1 I1 r1 => ⟨w, H, I1, r1, rout_here ho rw'⟩) hs
        · rw [e2] at hf
          cases hf
      · rw [dLook_T kk h2] at hf
        cases hf
    · split at hf
      · rename_i kk hk
        obtain ⟨a, rfl, h1⟩ := hd.dic
        cases rx
        obtain ⟨b, rfl, h3⟩ := tkD_v he hk
        cases ry
        rcases h1 with ⟨ks, h1, h2⟩ | ⟨ks, h1, h2⟩
        · rw [dLookT_K kk h2] at hf
          cases hf
        · rcases dLookT_rp kk h2 with ⟨w, d', e1, e2, rw'⟩ | ⟨e1, e2⟩
          · rw [e2] at hf
            cases hf
            obtain ⟨_, _, xs, rel, dd⟩ := dt_rd I.hok h1
            obtain ⟨w', hw, rw2⟩ := RelO.some_of (v := w) (o := (atKey xs kk).map (·.2)) (by rw [← e1]; exact rel.val kk)
            obtain ⟨p, hp, hp2⟩ := Option.map_eq_some_iff.mp hw
            refine tail_any (dd.typeIs) PySem.F.slot_dict_getitem.lookup (wpAny_getItem_heap (tupleKind_room_in1 (room_eq hr (show 1 ≤ 60 by decide))) (key_ofS I h3) dd hp ?_) hs
            rw [hp2]
            exact ⟨w, H, I.tok _, rw2, rout_here ho rw'⟩
          · rw [e2] at hf
            cases hf
      · cases hf
  · cases hf
theorem de_ix {k : Nat} (hr : L2H.RoomH k X.A) {a b : Expr} {ca cb : En → Sto → Rs Wv} {pos : Pos} (ha : DE X a ca) (hb : DE X b cb) (hs : PlainIx b) : DE X (.Subscript a b pos) (eOp2 ixD ca cb) :=
  ⟨fun W tk => PE.imp (pe_ix (o_ix hr) (ha.pe W tk) (hb.pe W tk) hs) fun σ H Q => te_two ixD⟩
/-- a part of a slice -/
structure DO (X : Cx) (e : Option Expr) (c : En → Sto → Rs (Option Int)) : Prop where
  po : ∀ W, Takes X W → PO X e fun σ H Q => ∃ m env st, Sim X.K H m st ∧ EnvR X.K H m st.length env σ ∧ (c env st).post (fun i st' => ∀ H' m', Fol m st.length H m' st'.length H' → Sim X.K H' m' st' → Q i H') (okX X W m st.length H σ)
def pNo : En → Sto → Rs (Option Int) := fun _ st => .ok none st
def pSome (c : En → Sto → Rs Wv) : En → Sto → Rs (Option Int) := fun env st => (c env st).bind fun w st1 => match w with
  | .d (.int i) => .ok (some i) st1
  | _ => .no
theorem PO.imp {e : Option Expr} {t t' : TO} (h : PO X e t) (q : ∀ σ H Q, t' σ H Q → t σ H Q) : PO X e t' := ⟨fun pins s σ H Q I x => h.run pins s σ H Q I (q σ H Q x)⟩
theorem do_no : DO X none pNo := ⟨fun W tk => PO.imp po_none fun σ H Q ⟨m, env, st, S, R, hp⟩ => hp H m .refl S⟩
theorem do_some {e : Expr} {c : En → Sto → Rs Wv} (h : DE X e c) : DO X (some e) (pSome c) := by
  refine ⟨fun W tk => PO.imp (po_some (h.pe W tk)) fun σ H Q ⟨m, env, st, S, R, hp⟩ => ?_⟩
  unfold pSome at hp
  rw [Rs.post_bind] at hp
  refine ⟨m, env, st, S, R, Rs.post_mono hp (fun w st1 q v H1 m1 f1 S1 r1 => ?_) fun _ _ q => q⟩
  split at q
  · cases r1
    exact ⟨_, rfl, q H1 m1 f1 S1⟩
  · exact q.elim
def cutD {α : Type} (xs : List α) (lo hi : Option Int) : List α := (xs.drop (HT.sIx xs.length 0 lo)).take (HT.sIx xs.length xs.length hi - HT.sIx xs.length 0 lo)
def slD (lo hi : Option Int) : PyData → Option PyData
  | .list xs => some (.list (cutD xs lo hi))
  | .tuple xs => some (.tuple (cutD xs lo hi))
  | .str z => if z.length ≤ 1000000 then some (.str (cutS z lo hi)) else none
  | _ => none
theorem cut_whole {α : Type} {xs : List α} {lo hi : Option Int} (h : HT.sIx xs.length 0 lo = 0 ∧ HT.sIx xs.length xs.length hi = xs.length) : cutD xs lo hi = xs := by
  unfold cutD
  rw [h.1, h.2]
  simp
theorem RpA.cut {K : Frg} {H : Hp} {Z : Addr → Prop} {vs : List V} {ds : List PyData} (h : RpA K H Z vs ds) (lo hi : Option Int) : RpA K H Z (cutV vs lo hi) (cutD ds lo hi) := by
  unfold cutV cutD
  rw [h.len]
  exact (h.drop _).take _
/-- a slice of a list, whoever holds it -/
def rSlice (K : Frg) : V → Option Int → Option Int → Hp → VK → Prop := fun x lo hi H Q => ∃ Z d r, (∀ a, H a = none → Z a) ∧ RT K H Z x d ∧ slD lo hi d = some r ∧ rOut K H Z r Q
theorem o_slice : SlR X (rSlice X.K) := by
  intro pins s σ H x v vl vu lo hi sl Q I rx hs pl pu ⟨Z, d, r, hz, hd, hf, ho⟩
  unfold slD at hf
  split at hf
  · cases hf
    obtain ⟨a, vs, rfl, h1, h2⟩ := hd.lst
    exact sl_list pins s σ H _ v vl vu lo hi sl Q I rx hs pl pu ⟨a, vs, rfl, h1.sq, rout_lst hz ho (h2.cut lo hi)⟩
  · cases hf
    obtain ⟨a, vs, rfl, h1, h2⟩ := hd.tupT
    refine sl_tupA pins s σ H _ v vl vu lo hi sl Q I rx hs pl pu ⟨a, vs, rfl, h1.sq, fun e => ?_, fun _ => rout_tup ho (h2.cut lo hi)⟩
    rw [cut_whole (by rw [← h2.len]; exact e)] at ho
    exact rout_here ho (.tup h1 h2)
  · split at hf
    · rename_i h
      cases hf
      exact sl_str pins s σ H x v vl vu lo hi sl Q I rx hs pl pu ⟨_, hd.str, Nat.le_trans h line_lim, rout_here ho (.str _)⟩
    · cases hf
  · cases hf
def eSlice (c : En → Sto → Rs Wv) (l h : En → Sto → Rs (Option Int)) : En → Sto → Rs Wv := fun env st => (c env st).bind fun w st1 => (l env st1).bind fun lo st2 => (h env st2).bind fun hi st3 => look1 w st3 fun d => ret1 (slD lo hi d) st3
theorem de_slice {a : Expr} {lo hi : Option Expr} {c : En → Sto → Rs Wv} {l h : En → Sto → Rs (Option Int)} {p2 pos : Pos} (ha : DE X a c) (hl : DO X lo l) (hh : DO X hi h) : DE X (.Subscript a (.Slice lo hi none p2) pos) (eSlice c l h) := by
  refine ⟨fun W tk => PE.imp (pe_slice o_slice (ha.pe W tk) (hl.po W tk) (hh.po W tk)) fun σ H Q ⟨m, env, st, S, R, hp⟩ => ?_⟩
  unfold eSlice at hp
  rw [Rs.post_bind] at hp
  refine ⟨m, env, st, S, R, Rs.post_mono hp (fun w st1 q v H1 m1 f1 S1 r1 => ?_) fun _ _ q => q⟩
  rw [Rs.post_bind] at q
  refine ⟨m1, env, st1, S1, R.mv f1, Rs.post_mono q (fun i st2 q H2 m2 f2 S2 => ?_) fun _ _ q => okX.tr f1 q⟩
  rw [Rs.post_bind] at q
  refine ⟨m2, env, st2, S2, (R.mv f1).mv f2, Rs.post_mono q (fun j st3 q H3 m3 f3 S3 => ?_) fun _ _ q => okX.tr (f1.trans f2) q⟩
  obtain ⟨d, e1, q⟩ := look1_post q
  obtain ⟨r, e2, q⟩ := ret1_post q
  exact ⟨_, d, r, fun a => S3.fresh, look_rt S3 ((r1.mv f2).mv f3) e1, e2, okE.out ((f1.trans f2).trans f3) S3 q⟩

/-! ## built-ins by their names -/
theorem de_callB {a : Expr} {as : List Expr} {cs : En → Sto → Rs (List Wv)} {x : Str} {id : String} {f : List PyData → Option PyData} {M : Md} {B : Tb} {k : Nat} {p pos : Pos} (c : Cxt M X B k) (hc : CallR X (.builtin id) (rN X.K f)) (j : Nat) (hg : B.gs[j]? = some x) (hm : M.mg x = none)
    (hv : bootBuiltins x = some (.builtin id)) (ha : DA X (a :: as) cs) (hn : x ≠ "__name__" := by decide) (hdb : (x == ("__debug__" : Str)) = false := by decide)
    (he : starEach (a :: as) X.env = (false, eval a X.env) :: starEach as X.env := by rfl) (hpl : (backTo pos (starEach as X.env)).any (·.1) = false := by rfl) : DE X (.Call (.Name x p) (a :: as) [] pos) (eOpN f cs) :=
  ⟨fun W tk => PE.imp (pe_callB hc (c.gl j x hg) (by rw [c.mg]; exact hm) hv (ha.pa W tk) hn hdb he hpl) fun σ H Q => te_all f⟩
theorem de_callT {a : Expr} {as : List Expr} {cs : En → Sto → Rs (List Wv)} {x : Str} {T : String} {f : List PyData → Option PyData} {M : Md} {B : Tb} {k : Nat} {p pos : Pos} (c : Cxt M X B k) (hc : CallR X (.type T) (rN X.K f)) (j : Nat) (hg : B.gs[j]? = some x) (hm : M.mg x = none)
    (hv : bootBuiltins x = some (.type T)) (ha : DA X (a :: as) cs) (hn : x ≠ "__name__" := by decide) (hdb : (x == ("__debug__" : Str)) = false := by decide)
    (he : starEach (a :: as) X.env = (false, eval a X.env) :: starEach as X.env := by rfl) (hpl : (backTo pos (starEach as X.env)).any (·.1) = false := by rfl) : DE X (.Call (.Name x p) (a :: as) [] pos) (eOpN f cs) :=
  ⟨fun W tk => PE.imp (pe_callTy hc (c.gl j x hg) (by rw [c.mg]; exact hm) hv (ha.pa W tk) hn hdb he hpl) fun σ H Q => te_all f⟩
theorem rts1 {K : Frg} {H : Hp} {Z : Addr → Prop} {vs : List V} {d : PyData} (h : RTs K H Z vs [d]) : ∃ v, vs = [v] ∧ RT K H Z v d := by
  cases h with | cons h1 h2 => cases h2; exact ⟨_, rfl, h1⟩
theorem rts2 {K : Frg} {H : Hp} {Z : Addr → Prop} {vs : List V} {d e : PyData} (h : RTs K H Z vs [d, e]) : ∃ v w, vs = [v, w] ∧ RT K H Z v d ∧ RT K H Z w e := by
  cases h with | cons h1 h2 => cases h2 with | cons h3 h4 => cases h4; exact ⟨_, _, rfl, h1, h3⟩
theorem Inv.rt1 {K : Frg} {Z : Addr → Prop} (I : Inv X pins σ H s) {v : V} {us : List Value} {d : PyData} (h : RT X.K H Z v d) (r : Vals [v] us) : ∃ u as, us = [u] ∧ RelV v u ∧ Reads s.heap u d as := by
  obtain ⟨u, rfl, r1⟩ := Vals.one r
  obtain ⟨as, q⟩ := Inv.rt I h r1
  exact ⟨u, as, rfl, r1, q⟩

theorem RpT.len {K : Frg} {H : Hp} {Z : Addr → Prop} : ∀ {ks : List (List Key × V)} {es : List (PyData × PyData)}, RpT K H Z ks es → ks.length = es.length
  | [], [], _ => rfl
  | _ :: _, _ :: _, .cons _ _ h => by simp [RpT.len h]
def lenD : PyData → Option PyData
  | .list xs => some (.int xs.length)
  | .tuple xs => some (.int xs.length)
  | .dict es => some (.int es.length)
  | .str z => if z.length ≤ 1000000 then some (.int z.length) else none
  | _ => none
def lenF : List PyData → Option PyData
  | [d] => lenD d
  | _ => none
theorem RpK.len {K : Frg} {H : Hp} {Z : Addr → Prop} : ∀ {ks : List (Key × V)} {es : List (PyData × PyData)}, RpK K H Z ks es → ks.length = es.length
  | [], [], _ => rfl
  | _ :: _, _ :: _, .cons _ _ h => by simp [RpK.len h]
theorem c_len : CallR X (.builtin "len") (rN X.K lenF) := by
  intro pins s σ H xs us Q I r ⟨Z, ds, e, hz, hd, hf, ho⟩
  unfold lenF at hf
  split at hf
  · obtain ⟨v, rfl, h⟩ := rts1 hd
    unfold lenD at hf
    split at hf
    · cases hf
      obtain ⟨a, vs, rfl, h1, h2⟩ := h.lst
      exact call_len_seq pins s σ H _ us Q I r ⟨a, vs, rfl, .inl h1.sq, by rw [h2.len]; exact rout_here ho (.int _)⟩
    · cases hf
      obtain ⟨a, vs, rfl, h1, h2⟩ := h.tup
      exact call_len_seq pins s σ H _ us Q I r ⟨a, vs, rfl, .inr h1, by rw [h2.len]; exact rout_here ho (.int _)⟩
    · cases hf
      obtain ⟨a, rfl, h1⟩ := h.dic
      obtain ⟨u, rfl, r1⟩ := Vals.one r
      cases r1
      rcases h1 with ⟨ks, h1, h2⟩ | ⟨ks, h1, h2⟩
      · exact d_len I h1 fun t s1 I1 => ⟨.int ks.length, H, I1, ⟨t, rfl⟩, by rw [h2.len]; exact rout_here ho (.int _)⟩
      · obtain ⟨z, hsm, xs, rel, dd⟩ := dt_rd I.hok h1
        refine call_len_dictH hsm dd (by rw [← Paired.length rel]; rw [sizeLine_eq] at z; omega) ?_
        exact ⟨.int xs.length, H, I.tok _, ⟨_, rfl⟩, by rw [← Paired.length rel, h2.len]; exact rout_here ho (.int _)⟩
    · split at hf
      · rename_i hl
        cases hf
        have e1 := h.str
        subst e1
        exact call_len_str pins s σ H _ us Q I r ⟨_, rfl, Nat.le_trans hl line_lim, rout_here ho (.int _)⟩
      · cases hf
    · cases hf
  · cases hf
end
end

section
variable [Wtp] [Tbl]

section
variable {X : Cx} {pins : List (Addr × Obj)} {σ : L2.St} {H : Hp} {s : Shared}
/-- what a sequence holds -/
def seqOf : PyData → Option (List PyData)
  | .list xs => some xs
  | .tuple xs => some xs
  | _ => none
def intsOf : List PyData → Option (List Int)
  | [] => some []
  | .int i :: r => (intsOf r).map (i :: ·)
  | _ :: _ => none
def boolsOf : List PyData → Option (List Bool)
  | [] => some []
  | .bool b :: r => (boolsOf r).map (b :: ·)
  | _ :: _ => none
theorem intsOf_map (ns : List Int) : intsOf (ns.map .int) = some ns := by
  induction ns with
  | nil => rfl
  | cons n r ih => rw [List.map_cons, intsOf, ih]; rfl
theorem intsOf_eq : ∀ {xs : List PyData} {ns : List Int}, intsOf xs = some ns → xs = ns.map .int
  | [], ns, h => by cases h; rfl
  | .int i :: r, ns, h => by
    rw [intsOf] at h
    cases q : intsOf r with
    | none => rw [q] at h; cases h
    | some l => rw [q] at h; cases h; rw [List.map_cons, ← intsOf_eq q]
  | .none :: r, ns, h => by cases h
  | .bool _ :: r, ns, h => by cases h
  | .str _ :: r, ns, h => by cases h
  | .list _ :: r, ns, h => by cases h
  | .tuple _ :: r, ns, h => by cases h
  | .dict _ :: r, ns, h => by cases h
theorem boolsOf_map (ns : List Bool) : boolsOf (ns.map .bool) = some ns := by
  induction ns with
  | nil => rfl
  | cons n r ih => rw [List.map_cons, boolsOf, ih]; rfl
theorem boolsOf_eq : ∀ {xs : List PyData} {ns : List Bool}, boolsOf xs = some ns → xs = ns.map .bool
  | [], ns, h => by cases h; rfl
  | .bool i :: r, ns, h => by
    rw [boolsOf] at h
    cases q : boolsOf r with
    | none => rw [q] at h; cases h
    | some l => rw [q] at h; cases h; rw [List.map_cons, ← boolsOf_eq q]
  | .none :: r, ns, h => by cases h
  | .int _ :: r, ns, h => by cases h
  | .str _ :: r, ns, h => by cases h
  | .list _ :: r, ns, h => by cases h
  | .tuple _ :: r, ns, h => by cases h
  | .dict _ :: r, ns, h => by cases h
theorem RpA.ints {K : Frg} {Z : Addr → Prop} : ∀ {vs : List V} {ns : List Int}, RpA K H Z vs (ns.map .int) → vs = ns.map V.int
  | [], [], _ => rfl
  | _ :: _, _ :: _, .cons h1 h2 => by cases h1; rw [List.map_cons, ← RpA.ints h2]
theorem RpA.bools {K : Frg} {Z : Addr → Prop} : ∀ {vs : List V} {ns : List Bool}, RpA K H Z vs (ns.map .bool) → vs = ns.map V.bl
  | [], [], _ => rfl
  | _ :: _, _ :: _, .cons h1 h2 => by cases h1; rw [List.map_cons, ← RpA.bools h2]

/-! ### abs, sum, any, all -/
def absF : List PyData → Option PyData
  | [.int i] => some (.int i.natAbs)
  | _ => none
theorem c_abs : CallR X (.builtin "abs") (rN X.K absF) := by
  intro pins s σ H xs us Q I r ⟨Z, ds, e, hz, hd, hf, ho⟩
  unfold absF at hf
  split at hf
  · cases hf
    obtain ⟨v, rfl, h⟩ := rts1 hd
    rw [h.int] at r
    refine call_abs pins s σ H _ us Q I r ⟨_, rfl, ?_⟩
    rename_i i
    rw [show (if i < 0 then -i else i) = (i.natAbs : Int) by split <;> omega]
    exact rout_here ho (.int _)
  · cases hf
def sumF : List PyData → Option PyData
  | [d] => match seqOf d with
    | some xs => (intsOf xs).map fun ns => .int ns.sum
    | none => none
  | _ => none
theorem preSum_ints {xs : Array (Int × Tok)} {ns : List Int} {us : List Value} (e : us.toArray = intItems xs) (hi : IntsAre us ns) : preSum (numAt xs) xs.size = ns.sum := by
  have hn : numsOf (intItems xs).toList = ns := by rw [← e]; exact hi.numsOf
  rw [nums_intItems] at hn
  rw [preSum_eq, List.take_of_length_le (by simp), hn]
theorem c_sum (hc : X.calm = true) : CallR X (.builtin "sum") (rN X.K sumF) := by
  intro pins s σ H xs us Q I r ⟨Z, ds, e, hz, hd, hf, ho⟩
  unfold sumF at hf
  split at hf
  · obtain ⟨v, rfl, h⟩ := rts1 hd
    split at hf
    · rename_i xs q
      cases q2 : intsOf xs with
      | none => rw [q2] at hf; cases hf
      | some ns =>
        rw [q2] at hf
        cases hf
        have e1 := intsOf_eq q2
        subst e1
        unfold seqOf at q
        split at q
        · cases q
          obtain ⟨a, vs, rfl, h1, h2⟩ := h.lst
          rw [h2.ints] at h1
          exact cr_sum hc pins s σ H _ us Q I r ⟨a, ns, rfl, h1.sq, rout_here ho (.int _)⟩
        · cases q
          obtain ⟨a, vs, rfl, h1, h2⟩ := h.tup
          rw [h2.ints] at h1
          obtain ⟨u, rfl, r1⟩ := Vals.one r
          cases r1
          obtain ⟨its, rv, ht, _⟩ := I.tuple h1
          have hi := rv.ints
          obtain ⟨ys, e2⟩ := hi.allInts.items
          have e3 := preSum_ints e2 hi
          rw [e2] at ht
          refine PySem.W.ktm_sumG (I.ok.hd hc) ht fun h' tk t' hk => ?_
          rw [e3]
          exact ⟨.int ns.sum, H, I.kept (t' := tk) hk, ⟨t', rfl⟩, rout_here ho (.int _)⟩
        · cases q
    · cases hf
  · cases hf
def anyF : List PyData → Option PyData
  | [.list xs] => (boolsOf xs).map fun bs => .bool (bs.any id)
  | _ => none
def allF : List PyData → Option PyData
  | [.list xs] => (boolsOf xs).map fun bs => .bool (bs.all id)
  | _ => none
theorem c_any (hc : X.calm = true) : CallR X (.builtin "any") (rN X.K anyF) := by
  intro pins s σ H xs us Q I r ⟨Z, ds, e, hz, hd, hf, ho⟩
  unfold anyF at hf
  split at hf
  · rename_i xs
    obtain ⟨v, rfl, h⟩ := rts1 hd
    cases q2 : boolsOf xs with
    | none => rw [q2] at hf; cases hf
    | some ns =>
      rw [q2] at hf
      cases hf
      have e1 := boolsOf_eq q2
      subst e1
      obtain ⟨a, vs, rfl, h1, h2⟩ := h.lst
      rw [h2.bools] at h1
      exact cr_any hc pins s σ H _ us Q I r ⟨a, ns, rfl, h1.sq, rout_here ho (.bl _)⟩
  · cases hf
theorem c_all (hc : X.calm = true) : CallR X (.builtin "all") (rN X.K allF) := by
  intro pins s σ H xs us Q I r ⟨Z, ds, e, hz, hd, hf, ho⟩
  unfold allF at hf
  split at hf
  · rename_i xs
    obtain ⟨v, rfl, h⟩ := rts1 hd
    cases q2 : boolsOf xs with
    | none => rw [q2] at hf; cases hf
    | some ns =>
      rw [q2] at hf
      cases hf
      have e1 := boolsOf_eq q2
      subst e1
      obtain ⟨a, vs, rfl, h1, h2⟩ := h.lst
      rw [h2.bools] at h1
      exact cr_all hc pins s σ H _ us Q I r ⟨a, ns, rfl, h1.sq, rout_here ho (.bl _)⟩
  · cases hf

/-! ### tuple, list, int -/
def tupF : List PyData → Option PyData
  | [d] => (seqOf d).map .tuple
  | _ => none
def lstF : List PyData → Option PyData
  | [d] => (seqOf d).map .list
  | _ => none
def intF : List PyData → Option PyData
  | [.int i] => some (.int i)
  | [.bool b] => some (.int (if b then 1 else 0))
  | _ => none
theorem c_tup : CallR X (.type "tuple") (rN X.K tupF) := by
  intro pins s σ H xs us Q I r ⟨Z, ds, e, hz, hd, hf, ho⟩
  unfold tupF at hf
  split at hf
  · obtain ⟨v, rfl, h⟩ := rts1 hd
    unfold seqOf at hf
    split at hf
    · cases hf
      obtain ⟨a, vs, rfl, h1, h2⟩ := h.lst
      exact call_tuple_of pins s σ H _ us Q I r ⟨a, vs, rfl, .inl ⟨h1.sq, rout_tup ho h2⟩⟩
    · cases hf
      obtain ⟨a, vs, rfl, h1, h2⟩ := h.tupT
      exact call_tuple_of pins s σ H _ us Q I r ⟨a, vs, rfl, .inr ⟨h1.sq, rout_here ho (.tup h1 h2)⟩⟩
    · cases hf
  · cases hf
theorem c_lst : CallR X (.type "list") (rN X.K lstF) := by
  intro pins s σ H xs us Q I r ⟨Z, ds, e, hz, hd, hf, ho⟩
  unfold lstF at hf
  split at hf
  · obtain ⟨v, rfl, h⟩ := rts1 hd
    unfold seqOf at hf
    split at hf
    · cases hf
      obtain ⟨a, vs, rfl, h1, h2⟩ := h.lst
      exact call_list_of pins s σ H _ us Q I r ⟨a, vs, rfl, .inl h1.sq, rout_lst hz ho h2⟩
    · cases hf
      obtain ⟨a, vs, rfl, h1, h2⟩ := h.tup
      exact call_list_of pins s σ H _ us Q I r ⟨a, vs, rfl, .inr h1, rout_lst hz ho h2⟩
    · cases hf
  · cases hf
theorem c_int : CallR X (.type "int") (rN X.K intF) := by
  intro pins s σ H xs us Q I r ⟨Z, ds, e, hz, hd, hf, ho⟩
  unfold intF at hf
  split at hf
  · cases hf
    obtain ⟨v, rfl, h⟩ := rts1 hd
    rw [h.int] at r
    exact call_int1 pins s σ H _ us Q I r (.inl ⟨_, rfl, rout_here ho (.int _)⟩)
  · cases hf
    obtain ⟨v, rfl, h⟩ := rts1 hd
    rw [h.bl] at r
    exact call_int1 pins s σ H _ us Q I r (.inr ⟨_, rfl, rout_here ho (.int _)⟩)
  · cases hf

/-! ### isinstance of a built-in class -/
def isaD (T : String) (d : PyData) : Option PyData := match T with
  | "int" => some (.bool d.isInt)
  | "bool" => some (.bool d.isBool)
  | "str" => some (.bool d.isStr)
  | "tuple" => some (.bool d.isTuple)
  | "list" => some (.bool d.isList)
  | "dict" => some (.bool d.isDict)
  | _ => none
def rIsa (K : Frg) (T : String) : List V → Hp → VK → Prop := fun vs H Q => ∃ Z v d r, vs = [v, .ty T] ∧ RT K H Z v d ∧ isaD T d = some r ∧ rOut K H Z r Q
theorem c_isa {T : String} : CallR X (.builtin "isinstance") (rIsa X.K T) := by
  intro pins s σ H xs us Q I r h
  obtain ⟨Z, v, d, e, rfl, hd, hf, ho⟩ := h
  obtain ⟨u, t, rfl, r1, r2⟩ := Vals.two r
  cases r2
  obtain ⟨as, q⟩ := Inv.rt I hd r1
  have fin : ∀ (b : Bool), e = .bool b → ∀ tk, EP X pins σ Q (.bool b) { s with toks := tk } := fun b eb tk => ⟨.bl b, H, I.tok tk, rfl, rout_here ho (by rw [eb]; exact .bl b)⟩
  unfold isaD at hf
  split at hf
  · cases hf; exact PySem.W.isinstance_int_data q fun tk _ => fin _ rfl tk
  · cases hf; exact PySem.W.isinstance_bool_data q fun tk _ => fin _ rfl tk
  · cases hf; exact PySem.W.isinstance_str_data q fun tk _ => fin _ rfl tk
  · cases hf; exact PySem.W.isinstance_tuple_data q fun tk _ => fin _ rfl tk
  · cases hf; exact PySem.W.isinstance_list_data q fun tk _ => fin _ rfl tk
  · cases hf; exact PySem.W.isinstance_dict_data q fun tk _ => fin _ rfl tk
  · cases hf
theorem de_isa {M : Md} {B : Tb} {k : Nat} {a : Expr} {ca : En → Sto → Rs Wv} {x : Str} {T : String} {p p2 pos : Pos} (c : Cxt M X B k) (j j2 : Nat) (hg : B.gs[j]? = some ("isinstance" : Str)) (hm : M.mg "isinstance" = none) (hg2 : B.gs[j2]? = some x) (hm2 : M.mg x = none)
    (hv : bootBuiltins x = some (.type T)) (ha : DE X a ca) (hn : x ≠ "__name__" := by decide) (hdb : (x == ("__debug__" : Str)) = false := by decide)
    (he : starEach [a, .Name x p2] X.env = (false, eval a X.env) :: starEach [.Name x p2] X.env := by rfl) : DE X (.Call (.Name "isinstance" p) [a, .Name x p2] [] pos) (eOp1 (isaD T) ca) := by
  refine ⟨fun W tk => PE.imp (pe_callB (c_isa (T := T)) (c.gl j _ hg) (by rw [c.mg]; exact hm) (by decide +kernel) (pa_cons (ha.pe W tk) (pa_cons (pe_bltn (v := .ty T) (c.gl j2 _ hg2) (by rw [c.mg]; exact hm2) hv rfl hn hdb) pa_nil) he) (by decide) (by decide) he) fun σ H Q h => ?_⟩
  obtain ⟨m, env, st, S, R, hp⟩ := h
  unfold eOp1 at hp
  rw [Rs.post_bind] at hp
  refine ⟨m, env, st, S, R, Rs.post_mono hp (fun w st1 q v H1 m1 f1 S1 r1 => ?_) fun _ _ q => q⟩
  obtain ⟨d, e1, q⟩ := look1_post q
  obtain ⟨r, e3, q⟩ := ret1_post q
  exact ⟨_, v, d, r, rfl, look_rt S1 r1 e1, e3, okE.out f1 S1 q⟩

/-! ### repr -/
def reprOk (d : PyData) : Bool := d.showable && (decide (d.depth ≤ 40) && (decide (d.shown.length ≤ 16000000) && !d.hasDict))
def reprF : List PyData → Option PyData
  | [.dict []] => some (.str "{}")
  | [d] => if reprOk d then some (.str d.shown) else none
  | _ => none
theorem readsAll_none {h : Heap} {l : List Value} {as : List Addr} (r : ReadsAll h l [] as) : as = [] := by cases r; rfl
theorem c_repr {k : Nat} (hr : L2H.RoomH k X.A) (hg : X.A.guards = some []) : CallR X (.builtin "repr") (rN X.K reprF) := by
  intro pins s σ H xs us Q I r ⟨Z, ds, e, hz, hd, hf, ho⟩
  have line : 16000000 ≤ sizeLine := by rw [sizeLine_eq]; decide
  have hu := room_eq hr (show 60 ≤ 60 by decide)
  unfold reprF at hf
  split at hf
  · cases hf
    obtain ⟨v, rfl, h⟩ := rts1 hd
    obtain ⟨a, rfl, h1⟩ := h.dic
    obtain ⟨u, as, rfl, r1, q⟩ := Inv.rt1 (K := X.K) I h r
    cases r1
    obtain ⟨hs, _⟩ := dkT_k I h1 rfl
    have hns : sysModules ∉ as := by
      cases q with
      | dict h1 h2 h3 h4 h5 =>
        rw [readsAll_none h4, readsAll_none h5]
        intro z
        simp at z
        rw [z] at hs
        simp at hs
    exact repr_of_reads' q (by decide +kernel) (fun _ => hns) hg (by show X.A.units + (_ + 1) < cLine; simp only [PyData.depth, PyData.depthKv]; omega) (fun _ _ e => e) (fun h' u tk hk => ⟨.str "{}", H, I.kept (t' := tk) hk, ⟨u, rfl⟩, rout_here ho (.str _)⟩) (by show ("{}" : Str).length ≤ sizeLine; exact Nat.le_trans (by decide +kernel) line)
  · split at hf
    · rename_i d _ hk
      cases hf
      unfold reprOk at hk
      simp only [Bool.and_eq_true, decide_eq_true_eq, Bool.not_eq_true'] at hk
      obtain ⟨k1, k2, k3, k4⟩ := hk
      obtain ⟨v, rfl, h⟩ := rts1 hd
      obtain ⟨u, as, rfl, r1, q⟩ := Inv.rt1 (K := X.K) I h r
      have big : d.shown.length ≤ sizeLine := Nat.le_trans k3 line
      have hnd : d.hasDict = true → sysModules ∉ as := fun z => by rw [k4] at z; cases z
      have seq : ∀ a, u = .ref a → wpAny (model X.prog X.w) X.A (call (.builtin "repr") [u]) (EP X pins σ Q) X.xe s := fun a ea => by
        subst ea
        exact repr_of_reads' q k1 hnd hg (by omega) (fun _ _ e => e) (fun h' u tk hk => ⟨.str d.shown, H, I.kept (t' := tk) hk, ⟨u, rfl⟩, rout_here ho (.str _)⟩) big
      cases d with
      | none => rw [h.non] at r1; cases r1; exact PySem.P.repr_of_none ⟨.str "None", H, I.tok _, ⟨_, rfl⟩, rout_here ho (.str _)⟩
      | bool b => rw [h.bl] at r1; cases r1; exact PySem.P.repr_of_bool ⟨.str _, H, I.tok _, ⟨_, rfl⟩, rout_here ho (by cases b <;> exact .str _)⟩
      | int i =>
        rw [h.int] at r1
        obtain ⟨t, rfl⟩ := r1
        exact PySem.P.repr_of_int (of_decide_eq_true k1) ⟨.str _, H, I.tok _, ⟨_, rfl⟩, rout_here ho (.str _)⟩
      | str x =>
        rw [h.str] at r1
        obtain ⟨t, rfl⟩ := r1
        exact PySem.P.repr_of_str ⟨.str _, H, I.tok _, ⟨_, rfl⟩, rout_here ho (.str _)⟩ big
      | list xs => obtain ⟨a, vs, rfl, _⟩ := h.lst; exact seq a r1
      | tuple xs => obtain ⟨a, vs, rfl, _⟩ := h.tup; exact seq a r1
      | dict xs => obtain ⟨a, rfl, _⟩ := h.dic; exact seq a r1
    · cases hf
  · cases hf
end
end

section
variable [Wtp] [Tbl]

/-! ## statements -/
inductive Rt where
  | w (x : Wv)
  | f (x : Wv)
  | ft (xs : List Wv)
inductive SR where
  | nx (env : En) (st : Sto)
  | rt (p : Rt) (st : Sto)
  | ex (e : Xc) (st : Sto)
  | no
namespace SR
def post (x : SR) (N : En → Sto → Prop) (R : Rt → Sto → Prop) (W : Xc → Sto → Prop) : Prop := match x with
  | .nx env st => N env st
  | .rt p st => R p st
  | .ex e st => W e st
  | .no => False
@[simp] theorem post_nx (env : En) (st : Sto) (N : En → Sto → Prop) (R : Rt → Sto → Prop) (W : Xc → Sto → Prop) : (SR.nx env st).post N R W = N env st := rfl
@[simp] theorem post_rt (p : Rt) (st : Sto) (N : En → Sto → Prop) (R : Rt → Sto → Prop) (W : Xc → Sto → Prop) : (SR.rt p st).post N R W = R p st := rfl
@[simp] theorem post_ex (p : Xc) (st : Sto) (N : En → Sto → Prop) (R : Rt → Sto → Prop) (W : Xc → Sto → Prop) : (SR.ex p st).post N R W = W p st := rfl
@[simp] theorem post_no (N : En → Sto → Prop) (R : Rt → Sto → Prop) (W : Xc → Sto → Prop) : SR.no.post N R W = False := rfl
theorem post_mono {x : SR} {N N' : En → Sto → Prop} {R R' : Rt → Sto → Prop} {W W' : Xc → Sto → Prop} (h : x.post N R W) (h1 : ∀ a st, N a st → N' a st) (h2 : ∀ a st, R a st → R' a st) (h3 : ∀ a st, W a st → W' a st) : x.post N' R' W' := by
  cases x with
  | nx a st => exact h1 a st h
  | rt a st => exact h2 a st h
  | ex a st => exact h3 a st h
  | no => exact h
/-- what follows -/
def seq (x : SR) (f : En → Sto → SR) : SR := match x with
  | .nx env st => f env st
  | .rt p st => .rt p st
  | .ex e st => .ex e st
  | .no => .no
@[simp] theorem seq_nx (env : En) (st : Sto) (f : En → Sto → SR) : (SR.nx env st).seq f = f env st := rfl
@[simp] theorem seq_rt (p : Rt) (st : Sto) (f : En → Sto → SR) : (SR.rt p st).seq f = .rt p st := rfl
@[simp] theorem seq_ex (p : Xc) (st : Sto) (f : En → Sto → SR) : (SR.ex p st).seq f = .ex p st := rfl
@[simp] theorem seq_no (f : En → Sto → SR) : SR.no.seq f = .no := rfl
theorem post_seq (x : SR) (f : En → Sto → SR) (N : En → Sto → Prop) (R : Rt → Sto → Prop) (W : Xc → Sto → Prop) : (x.seq f).post N R W = x.post (fun env st => (f env st).post N R W) R W := by cases x <;> rfl
end SR
/-- a value, then a statement's end -/
def Rs.sb {α : Type} (x : Rs α) (f : α → Sto → SR) : SR := match x with
  | .ok a st => f a st
  | .ex e st => .ex e st
  | .no => .no
@[simp] theorem Rs.sb_ok {α : Type} (a : α) (st : Sto) (f : α → Sto → SR) : (Rs.ok a st).sb f = f a st := rfl
@[simp] theorem Rs.sb_ex {α : Type} (e : Xc) (st : Sto) (f : α → Sto → SR) : (Rs.ex e st : Rs α).sb f = .ex e st := rfl
@[simp] theorem Rs.sb_no {α : Type} (f : α → Sto → SR) : (Rs.no : Rs α).sb f = .no := rfl
theorem Rs.post_sb {α : Type} (x : Rs α) (f : α → Sto → SR) (N : En → Sto → Prop) (R : Rt → Sto → Prop) (W : Xc → Sto → Prop) : (x.sb f).post N R W = x.post (fun a st => (f a st).post N R W) W := by cases x <;> rfl

def RtR (K : Frg) (H : Hp) (m : Mp) (n : Nat) (v : V) : Rt → Prop
  | .w x => RW K H m n v x
  | .f x => RW K H m n v x
  | .ft xs => ∃ a vs, v = .ref a ∧ H a = some (.tup vs) ∧ RWs K H m n vs xs
def okN (X : Cx) (m : Mp) (n : Nat) (H : Hp) (D : Ends) : En → Sto → Prop := fun env st' => ∀ σ' H' m', Fol m n H m' st'.length H' → Sim X.K H' m' st' → EnvR X.K H' m' st'.length env σ' → D.nx σ' H'
def okR (X : Cx) (m : Mp) (n : Nat) (H : Hp) (D : Ends) : Rt → Sto → Prop := fun p st' => ∀ v H' m', Fol m n H m' st'.length H' → Sim X.K H' m' st' → RtR X.K H' m' st'.length v p → D.rt v H'
def okXs (X : Cx) (W : WX) (m : Mp) (n : Nat) (H : Hp) : Xc → Sto → Prop := fun e st' => ∀ c d σ' H' m', Fol m n H m' st'.length H' → Sim X.K H' m' st' → ExR X.K X.mg H' m' st'.length e c d → W c d σ' H'
def tS (X : Cx) (W : WX) (c : En → Sto → SR) : TS := fun D σ H => ∃ m env st, Sim X.K H m st ∧ EnvR X.K H m st.length env σ ∧ (c env st).post (okN X m st.length H D) (okR X m st.length H D) (okXs X W m st.length H)
structure DS (X : Cx) (e : Stmt) (c : En → Sto → SR) : Prop where
  ps : ∀ W, Takes X W → PS X e (tS X W c)
structure DB (X : Cx) (es : List Stmt) (c : En → Sto → SR) : Prop where
  pss : ∀ W, Takes X W → PSs X es (tS X W c)

def sNil : En → Sto → SR := fun env st => .nx env st
def sSeq (a b : En → Sto → SR) : En → Sto → SR := fun env st => (a env st).seq b
def sSet (i : Nat) (c : En → Sto → Rs Wv) : En → Sto → SR := fun env st => (c env st).sb fun w st1 => .nx (env.set i (some w)) st1
def sRet (c : En → Sto → Rs Wv) : En → Sto → SR := fun env st => (c env st).sb fun w st1 => .rt (.w w) st1
def sRetF (c : En → Sto → Rs Wv) : En → Sto → SR := fun env st => (c env st).sb fun w st1 => .rt (.f w) st1
def sRetT (c : En → Sto → Rs (List Wv)) : En → Sto → SR := fun env st => (c env st).sb fun ws st1 => if ws.length ≤ 1000 then .rt (.ft ws) st1 else .no
def sRetN : En → Sto → SR := fun env st => .rt (.w (.d .none)) st
def sExp (c : En → Sto → Rs Wv) : En → Sto → SR := fun env st => (c env st).sb fun _ st1 => .nx env st1
def sIf (t : En → Sto → Rs Bool) (a b : En → Sto → SR) : En → Sto → SR := fun env st => (t env st).sb fun x st1 => if x then a env st1 else b env st1
def sNo : En → Sto → SR := fun _ _ => .no

section
variable {M : Md} {X : Cx} {B : Tb} {k : Nat} {pins : List (Addr × Obj)} {σ : L2.St} {H : Hp} {s : Shared} {m : Mp} {env : En} {st : Sto} {W : WX} {D : Ends} {pos : Pos}
theorem PS.imp {e : Stmt} {t t' : TS} (h : PS X e t) (q : ∀ D σ H, t' D σ H → t D σ H) : PS X e t' := ⟨fun pins s σ H D I x => h.run pins s σ H D I (q D σ H x)⟩
theorem PSs.imp {e : List Stmt} {t t' : TS} (h : PSs X e t) (q : ∀ D σ H, t' D σ H → t D σ H) : PSs X e t' := ⟨fun pins s σ H D I x => h.run pins s σ H D I (q D σ H x)⟩
theorem okXs.x {n : Nat} {e : Xc} {st' : Sto} (h : okXs X W m n H e st') : okX X W m n H σ e st' := fun c d H' m' f S r => h c d σ H' m' f S r
theorem okXs.tr {m1 : Mp} {n n1 : Nat} {H1 : Hp} {e : Xc} {st' : Sto} (f : Fol m n H m1 n1 H1) (h : okXs X W m n H e st') : okXs X W m1 n1 H1 e st' := fun c d σ' H' m' f' S' r => h c d σ' H' m' (f.trans f') S' r
theorem okN.tr {m1 : Mp} {n n1 : Nat} {H1 : Hp} {e : En} {st' : Sto} (f : Fol m n H m1 n1 H1) (h : okN X m n H D e st') : okN X m1 n1 H1 D e st' := fun σ' H' m' f' S' r => h σ' H' m' (f.trans f') S' r
theorem okR.tr {m1 : Mp} {n n1 : Nat} {H1 : Hp} {e : Rt} {st' : Sto} (f : Fol m n H m1 n1 H1) (h : okR X m n H D e st') : okR X m1 n1 H1 D e st' := fun v H' m' f' S' r => h v H' m' (f.trans f') S' r
/-- a value, then the statement -/
theorem te_sb {c : En → Sto → Rs Wv} {f : En → Wv → Sto → SR} {Q : VK} (S : Sim X.K H m st) (R : EnvR X.K H m st.length env σ) (hp : ((c env st).sb (f env)).post (okN X m st.length H D) (okR X m st.length H D) (okXs X W m st.length H))
    (q : ∀ w st1 v H1 m1, Fol m st.length H m1 st1.length H1 → Sim X.K H1 m1 st1 → EnvR X.K H1 m1 st1.length env σ → RW X.K H1 m1 st1.length v w → (f env w st1).post (okN X m st.length H D) (okR X m st.length H D) (okXs X W m st.length H) → Q v H1) : tE X W c σ H Q := by
  rw [Rs.post_sb] at hp
  exact ⟨m, env, st, S, R, Rs.post_mono hp (fun w st1 h v H1 m1 f1 S1 r1 => q w st1 v H1 m1 f1 S1 (R.mv f1) r1 h) fun _ _ h => h.x⟩

theorem db_nil : DB X [] sNil := ⟨fun W tk => PSs.imp pss_nil fun D σ H ⟨m, env, st, S, R, hp⟩ => hp σ H m .refl S R⟩
theorem db_cons {e : Stmt} {es : List Stmt} {a b : En → Sto → SR} (h1 : DS X e a) (h2 : DB X es b) : DB X (e :: es) (sSeq a b) := by
  refine ⟨fun W tk => PSs.imp (pss_cons (h1.ps W tk) (h2.pss W tk)) fun D σ H ⟨m, env, st, S, R, hp⟩ => ?_⟩
  unfold sSeq at hp
  rw [SR.post_seq] at hp
  exact ⟨m, env, st, S, R, SR.post_mono hp (fun env1 st1 q σ1 H1 m1 f1 S1 R1 => ⟨m1, env1, st1, S1, R1, SR.post_mono q (fun _ _ q => okN.tr f1 q) (fun _ _ q => okR.tr f1 q) fun _ _ q => okXs.tr f1 q⟩) (fun _ _ q => q) fun _ _ q => q⟩
theorem db_one {e : Stmt} {a : En → Sto → SR} (h1 : DS X e a) : DB X [e] a := ⟨fun W tk => pss_one (h1.ps W tk)⟩
theorem ds_set (c : Cxt M X B k) (i : Nat) {x : Str} {e : Expr} {ce : En → Sto → Rs Wv} {pos' : Pos} (hi : B.N[i]? = some x) (hl : i ∈ B.ls) (he : DE X e ce) (hs : swapsWith e (some (.Name x pos')) pos.line X.env = pure false := by rfl) : DS X (.Assign [.Name x pos'] e pos) (sSet i ce) := by
  obtain ⟨l1, l2⟩ := c.loc i hl x hi
  refine ⟨fun W tk => PS.imp (ps_set (by rw [c.hN]; exact c.nd) (by rw [c.hN]; exact hi) l1 (he.pe W tk) hs l2) fun D σ H ⟨m, env, st, S, R, hp⟩ => ?_⟩
  exact te_sb (f := fun env w st1 => .nx (env.set i (some w)) st1) S R hp fun w st1 v H1 m1 f1 S1 R1 r1 q => q _ H1 m1 f1 S1 (R1.set i r1)
theorem ds_ret {e : Expr} {ce : En → Sto → Rs Wv} (he : DE X e ce) : DS X (.Return (some e) pos) (sRet ce) := by
  refine ⟨fun W tk => PS.imp (ps_ret (he.pe W tk)) fun D σ H ⟨m, env, st, S, R, hp⟩ => ?_⟩
  exact te_sb (f := fun env w st1 => .rt (.w w) st1) S R hp fun w st1 v H1 m1 f1 S1 R1 r1 q => q v H1 m1 f1 S1 r1
theorem ds_retf {e : Expr} {ce : En → Sto → Rs Wv} (he : DE X e ce) : DS X (.Return (some e) pos) (sRetF ce) := by
  refine ⟨fun W tk => PS.imp (ps_ret (he.pe W tk)) fun D σ H ⟨m, env, st, S, R, hp⟩ => ?_⟩
  exact te_sb (f := fun env w st1 => .rt (.f w) st1) S R hp fun w st1 v H1 m1 f1 S1 R1 r1 q => q v H1 m1 f1 S1 r1
theorem ds_rett {es : List Expr} {cs : En → Sto → Rs (List Wv)} {x1} {p2 : Pos} (ha : DA X es cs) : DS X (.Return (some (.Tuple es x1 p2)) pos) (sRetT cs) := by
  refine ⟨fun W tk => PS.imp (ps_ret (pe_tup (ha.pa W tk))) fun D σ H ⟨m, env, st, S, R, hp⟩ => ?_⟩
  unfold sRetT at hp
  rw [Rs.post_sb] at hp
  refine ⟨m, env, st, S, R, Rs.post_mono hp (fun ws st1 q vs H1 m1 f1 S1 r1 => ?_) fun _ _ h => h.x⟩
  split at q
  · refine ⟨by rw [r1.len]; exact Nat.le_trans (by omega) line_lim, fun p hn => ?_⟩
    have g := grow_upd (o := .tup vs) hn
    exact q _ _ m1 (f1.trans (.same g)) (S1.grow g) ⟨p, vs, rfl, upd_same, r1.mv (.same g)⟩
  · exact q.elim
theorem ds_retn : DS X (.Return none pos) sRetN := ⟨fun W tk => PS.imp ps_retN fun D σ H ⟨m, env, st, S, R, hp⟩ => hp _ H m .refl S .non⟩
theorem ds_exp {e : Expr} {ce : En → Sto → Rs Wv} (he : DE X e ce) (hs : swapsWith e none pos.line X.env = pure false := by rfl) : DS X (.Expr e pos) (sExp ce) := by
  refine ⟨fun W tk => PS.imp (ps_expr (he.pe W tk) hs) fun D σ H ⟨m, env, st, S, R, hp⟩ => ?_⟩
  exact te_sb (f := fun env w st1 => .nx env st1) S R hp fun w st1 v H1 m1 f1 S1 R1 r1 q => q σ H1 m1 f1 S1 R1
theorem ds_if {t : Expr} {a b : List Stmt} {ct : En → Sto → Rs Bool} {ca cb : En → Sto → SR} (ht : DT X t ct) (ha : DB X a ca) (hb : DB X b cb) : DS X (.If t a b pos) (sIf ct ca cb) := by
  refine ⟨fun W tk => PS.imp (ps_if (ht.pt W tk) (ha.pss W tk) (hb.pss W tk)) fun D σ H ⟨m, env, st, S, R, hp⟩ => ?_⟩
  unfold sIf at hp
  rw [Rs.post_sb] at hp
  refine ⟨m, env, st, S, R, Rs.post_mono hp (fun x st1 q H1 m1 f1 S1 => ?_) fun _ _ h => h.x⟩
  have go : ∀ {c : En → Sto → SR}, (c env st1).post (okN X m st.length H D) (okR X m st.length H D) (okXs X W m st.length H) → tS X W c D σ H1 := fun q =>
    ⟨m1, env, st1, S1, R.mv f1, SR.post_mono q (fun _ _ q => okN.tr f1 q) (fun _ _ q => okR.tr f1 q) fun _ _ q => okXs.tr f1 q⟩
  cases x with
  | true => exact go q
  | false => exact go q
/-- what is never reached -/
theorem ds_no {e : Stmt} : DS X e sNo := ⟨fun W tk => PS.imp ps_never fun D σ H ⟨m, env, st, S, R, hp⟩ => hp⟩
theorem ds_pass : DS X (.Pass pos) sNil := ⟨fun W tk => PS.imp ps_pass fun D σ H ⟨m, env, st, S, R, hp⟩ => hp σ H m .refl S R⟩

/-! ### targets -/
/-- σ' is σ but at the slots of S -/
def But (S : List Nat) (σ σ' : L2.St) : Prop := σ'.length = σ.length ∧ ∀ j, j ∉ S → σ'[j]? = σ[j]?
theorem But.refl {S : List Nat} {σ : L2.St} : But S σ σ := ⟨rfl, fun _ _ => rfl⟩
theorem But.set {S : List Nat} {σ : L2.St} {i : Nat} {v : Option V} (h : i ∈ S) : But S σ (σ.set i v) := ⟨by simp, fun j hj => List.getElem?_set_ne (fun e : i = j => hj (e ▸ h))⟩
theorem But.trans {S : List Nat} {σ σ1 σ2 : L2.St} (a : But S σ σ1) (b : But S σ1 σ2) : But S σ σ2 := ⟨b.1.trans a.1, fun j hj => (b.2 j hj).trans (a.2 j hj)⟩
structure DG (X : Cx) (S : List Nat) (tg : Expr) (g : Wv → En → Option En) : Prop where
  pg : PG X tg fun v σ H Q => ∃ m n env w env', RW X.K H m n v w ∧ EnvR X.K H m n env σ ∧ g w env = some env' ∧ ∀ σ', EnvR X.K H m n env' σ' → But S σ σ' → Q σ' H
structure DGs (X : Cx) (S : List Nat) (tg : List Expr) (g : List PyData → En → Option En) : Prop where
  pgs : PGs X tg fun vs σ H Q => ∃ m n env ds env', RpA X.K H (Off m n) vs ds ∧ EnvR X.K H m n env σ ∧ g ds env = some env' ∧ ∀ σ', EnvR X.K H m n env' σ' → But S σ σ' → Q σ' H
def gN (i : Nat) : Wv → En → Option En := fun w env => some (env.set i (some w))
def gTp (g : List PyData → En → Option En) : Wv → En → Option En := fun w env => match w with
  | .d (.tuple xs) => g xs env
  | _ => none
def gNl : List PyData → En → Option En := fun xs env => match xs with
  | [] => some env
  | _ => none
def gCn (g : Wv → En → Option En) (h : List PyData → En → Option En) : List PyData → En → Option En := fun xs env => match xs with
  | x :: r => (g (.d x) env).bind (h r)
  | [] => none
theorem PG.imp {e : Expr} {t t' : TG} (h : PG X e t) (q : ∀ v σ H Q, t' v σ H Q → t v σ H Q) : PG X e t' := ⟨fun pins s σ H v u Q I r x => h.run pins s σ H v u Q I r (q v σ H Q x)⟩
theorem PGs.imp {e : List Expr} {t t' : TGs} (h : PGs X e t) (q : ∀ v σ H Q, t' v σ H Q → t v σ H Q) : PGs X e t' := ⟨fun pins s σ H v u Q I r x => h.run pins s σ H v u Q I r (q v σ H Q x)⟩
theorem dg_name (c : Cxt M X B k) (S : List Nat) (i : Nat) {x : Str} (hi : B.N[i]? = some x) (hl : i ∈ B.ls) (hS : i ∈ S) : DG X S (.Name x pos) (gN i) := by
  obtain ⟨l1, l2⟩ := c.loc i hl x hi
  refine ⟨PG.imp (pg_name (by rw [c.hN]; exact c.nd) (by rw [c.hN]; exact hi) l1 l2) fun v σ H Q ⟨m, n, env, w, env', r, R, e, q⟩ => ?_⟩
  cases e
  exact q _ (R.set i r) (.set hS)
theorem dgs_nil (S : List Nat) : DGs X S [] gNl := by
  refine ⟨PGs.imp pgs_nil fun v σ H Q ⟨m, n, env, ds, env', r, R, e, q⟩ => ?_⟩
  unfold gNl at e
  split at e
  · cases e
    cases r
    exact ⟨rfl, q σ R .refl⟩
  · cases e
theorem dgs_cons {S : List Nat} {e : Expr} {es : List Expr} {g : Wv → En → Option En} {h : List PyData → En → Option En} (h1 : DG X S e g) (h2 : DGs X S es h) (hs : (assignEach (e :: es) X.env).map (·.2) = assign e X.env :: (assignEach es X.env).map (·.2) := by rfl) : DGs X S (e :: es) (gCn g h) := by
  refine ⟨PGs.imp (pgs_cons h1.pg h2.pgs hs) fun v σ H Q ⟨m, n, env, ds, env', r, R, e, q⟩ => ?_⟩
  unfold gCn at e
  split at e
  · rename_i x r'
    cases r with
    | @cons v0 vr _ _ r1 r2 =>
      cases e1 : g (.d x) env with
      | none => rw [e1] at e; cases e
      | some env1 =>
        rw [e1] at e
        exact ⟨v0, vr, rfl, m, n, env, .d x, env1, r1, R, e1, fun σ1 R1 b1 => ⟨m, n, env1, r', env', r2, R1, e, fun σ2 R2 b2 => q σ2 R2 (b1.trans b2)⟩⟩
  · cases e
/-- how many items a target asks -/
def Asks (g : List PyData → En → Option En) (n : Nat) : Prop := ∀ xs env env', g xs env = some env' → xs.length = n
theorem asks_nil : Asks gNl 0 := fun xs env env' h => by
  unfold gNl at h
  split at h
  · rfl
  · cases h
theorem asks_cons {g : Wv → En → Option En} {h : List PyData → En → Option En} {n : Nat} (a : Asks h n) : Asks (gCn g h) (n + 1) := fun xs env env' e => by
  unfold gCn at e
  split at e
  · rename_i x r
    cases e1 : g (.d x) env with
    | none => rw [e1] at e; cases e
    | some env1 => rw [e1] at e; simp [a r env1 env' e]
  · cases e
theorem dg_tup (c : Cxt M X B k) {S : List Nat} {es : List Expr} {j n : Nat} {g : List PyData → En → Option En} (h : DGs X S es g) (a : Asks g n) (hn : (assignEach es X.env).length = n := by rfl) (hst : (assignEach es X.env).findIdx? (·.1) = none := by rfl) : DG X S (.Tuple es j pos) (gTp g) := by
  refine ⟨PG.imp (pg_tup c.calm h.pgs hn hst) fun v σ H Q ⟨m, n', env, w, env', r, R, e, q⟩ => ?_⟩
  unfold gTp at e
  split at e
  · rename_i xs
    cases r with
    | tup h1 h2 => exact ⟨_, _, rfl, h1.sq, by rw [h2.len]; exact a _ _ _ e, m, n', env, xs, env', h2, R, e, q⟩
  · cases e
def sAsg (g : Wv → En → Option En) (c : En → Sto → Rs Wv) : En → Sto → SR := fun env st => (c env st).sb fun w st1 => match g w env with
  | some env' => .nx env' st1
  | none => .no
theorem ds_asg {tg e : Expr} {g : Wv → En → Option En} {ce : En → Sto → Rs Wv} {S0 : List Nat} (he : DE X e ce) (hg : DG X S0 tg g) (hs : swapsWithSole [tg] e pos.line X.env = pure false := by rfl) (hw : swappedStores [tg] e X.env = pure none := by rfl)
    (h1 : (assignEach [tg] X.env).map (·.2) = [assign tg X.env] := by rfl) : DS X (.Assign [tg] e pos) (sAsg g ce) := by
  refine ⟨fun W tk => PS.imp (ps_asg (he.pe W tk) hg.pg hs hw h1) fun D σ H ⟨m, env, st, S, R, hp⟩ => ?_⟩
  refine te_sb (f := fun env w st1 => match g w env with | some env' => .nx env' st1 | none => .no) S R hp fun w st1 v H1 m1 f1 S1 R1 r1 q => ?_
  split at q
  · exact ⟨m1, st1.length, env, w, _, r1, R1, by assumption, fun σ' R' _ => q σ' H1 m1 f1 S1 R'⟩
  · exact q.elim
/-- a, b = x, y of plain names -/
def sPar2 (i j : Nat) (c : En → Sto → Rs (List Wv)) : En → Sto → SR := fun env st => (c env st).sb fun ws st1 => match ws with
  | [v, w] => .nx ((env.set i (some v)).set j (some w)) st1
  | _ => .no
theorem ds_par2 (c : Cxt M X B k) (i j : Nat) {x y : Str} {a b : Expr} {ca : En → Sto → Rs (List Wv)} {px py pt : Pos} {kt : Nat} {k2 : Nat} {pt2 : Pos} (hi : B.N[i]? = some x) (hj : B.N[j]? = some y) (hij : i ≠ j) (hx : X.env.scope.names.lookup x = some .local) (hy : X.env.scope.names.lookup y = some .local) (ha : DA X [a, b] ca)
    (hw : swappedStores [.Tuple [.Name x px, .Name y py] kt pt] (.Tuple [a, b] k2 pt2) X.env = pure (some [x, y])) (hs : swapsWithSole [.Tuple [.Name x px, .Name y py] kt pt] (.Tuple [a, b] k2 pt2) pos.line X.env = pure false := by rfl) :
    DS X (.Assign [.Tuple [.Name x px, .Name y py] kt pt] (.Tuple [a, b] k2 pt2) pos) (sPar2 i j ca) := by
  refine ⟨fun W tk => PS.imp (ps_par c.calm (by rw [c.hN]; exact c.nd) (by rw [c.hN]; exact hi) (by rw [c.hN]; exact hj) hij hx hy (ha.pa W tk) hw hs) fun D σ H ⟨m, env, st, S, R, hp⟩ => ?_⟩
  unfold sPar2 at hp
  rw [Rs.post_sb] at hp
  refine ⟨m, env, st, S, R, Rs.post_mono hp (fun ws st1 q vs H1 m1 f1 S1 r1 => ?_) fun _ _ h => h.x⟩
  split at q
  · cases r1 with
    | cons r1 r2 =>
      cases r2 with
      | cons r2 r3 =>
        cases r3
        exact ⟨_, _, rfl, q _ H1 m1 f1 S1 (((R.mv f1).set i r1).set j r2)⟩
  · exact q.elim
def sPar3 (i j l : Nat) (c : En → Sto → Rs (List Wv)) : En → Sto → SR := fun env st => (c env st).sb fun ws st1 => match ws with
  | [u, v, w] => .nx (((env.set i (some u)).set j (some v)).set l (some w)) st1
  | _ => .no
theorem ds_par3 (c : Cxt M X B k) (i j l : Nat) {x y z : Str} {a b e : Expr} {ca : En → Sto → Rs (List Wv)} {px py pz pt : Pos} {kt : Nat} {k2 : Nat} {pt2 : Pos} (hi : B.N[i]? = some x) (hj : B.N[j]? = some y) (hl : B.N[l]? = some z) (hij : i ≠ j) (hil : i ≠ l) (hjl : j ≠ l)
    (hx : X.env.scope.names.lookup x = some .local) (hy : X.env.scope.names.lookup y = some .local) (hz : X.env.scope.names.lookup z = some .local) (ha : DA X [a, b, e] ca)
    (hw : swappedStores [.Tuple [.Name x px, .Name y py, .Name z pz] kt pt] (.Tuple [a, b, e] k2 pt2) X.env = pure (some [x, y, z])) (hs : swapsWithSole [.Tuple [.Name x px, .Name y py, .Name z pz] kt pt] (.Tuple [a, b, e] k2 pt2) pos.line X.env = pure false := by rfl) :
    DS X (.Assign [.Tuple [.Name x px, .Name y py, .Name z pz] kt pt] (.Tuple [a, b, e] k2 pt2) pos) (sPar3 i j l ca) := by
  refine ⟨fun W tk => PS.imp (ps_par3 c.calm (by rw [c.hN]; exact c.nd) (by rw [c.hN]; exact hi) (by rw [c.hN]; exact hj) (by rw [c.hN]; exact hl) hij hil hjl hx hy hz (ha.pa W tk) hw hs) fun D σ H ⟨m, env, st, S, R, hp⟩ => ?_⟩
  unfold sPar3 at hp
  rw [Rs.post_sb] at hp
  refine ⟨m, env, st, S, R, Rs.post_mono hp (fun ws st1 q vs H1 m1 f1 S1 r1 => ?_) fun _ _ h => h.x⟩
  split at q
  · cases r1 with
    | cons r1 r2 =>
      cases r2 with
      | cons r2 r3 =>
        cases r3 with
        | cons r3 r4 =>
          cases r4
          exact ⟨_, _, _, rfl, q _ H1 m1 f1 S1 ((((R.mv f1).set i r1).set j r2).set l r3)⟩
  · exact q.elim
end
end

section
variable [Wtp] [Tbl]

/-! ## a comprehension's block -/
def Tb.blk (B : Tb) (us ls : List Nat) (gs cs : List Str) : Tb := ⟨B.N, us, ls, [], gs, cs, false, B.gd, B.lq⟩
def kdV : Option NameKind → Bool
  | some .local => true
  | some .cell => true
  | some .free => true
  | _ => false
def kdL : Option NameKind → Bool
  | some .local => true
  | some .cell => true
  | _ => false
def kdC : Option NameKind → Bool
  | some .cell => true
  | some .free => true
  | _ => false
def kdG : Option NameKind → Bool
  | some .globalImplicit => true
  | _ => false
def blkT (B : Tb) (us ls : List Nat) (gs cs : List Str) (sc : Scope) (own : List (Str × Nat)) : Bool :=
  (match sc.kind with | .function => true | _ => false) &&
  ((sc.names.all fun y => decide (sc.names.lookup y.1 = some y.2)) &&
  ((own.all fun p => decide (B.N[p.2]? = some p.1)) &&
  ((sc.names.all fun y => match y.2 with
    | .free => decide (y.1 ∈ B.cs)
    | .local => decide (y.1 ∈ own.map (·.1)) || decide (y.1 ∉ B.N)
    | .cell => decide (y.1 ∈ own.map (·.1)) || decide (y.1 ∉ B.N)
    | _ => true) &&
  ((us.all fun i => match B.N[i]? with | some x => kdV (sc.names.lookup x) | none => true) &&
  ((ls.all fun i => match B.N[i]? with | some x => kdL (sc.names.lookup x) | none => true) &&
  ((gs.all fun x => kdG (sc.names.lookup x)) && (cs.all fun x => kdC (sc.names.lookup x))))))))
section
variable {M : Md} {X : Cx} {B : Tb} {k : Nat} {sc : Scope} {own : List (Str × Nat)} {us ls : List Nat} {gs cs : List Str}
theorem relS_keep {s0 : Scope} {x : Str} {q : NameKind} (h : sc.names.lookup x = some q) (hf : q ≠ .free) : (relS sc s0).names.lookup x = some q := lookup_relS_keep hf h
theorem relS_free {s0 : Scope} : ∀ {names : List (Str × NameKind)} {x : Str}, names.lookup x = some .free →
    (names.map fun (n, k) => if (k == NameKind.free && s0.kind == .function && s0.names.lookup n == some .cell) then (n, NameKind.cell) else (n, k)).lookup x = some .cell ∨
    (names.map fun (n, k) => if (k == NameKind.free && s0.kind == .function && s0.names.lookup n == some .cell) then (n, NameKind.cell) else (n, k)).lookup x = some .free
  | [], _, h => by simp at h
  | (n, q) :: r, x, h => by
    have ih := @relS_free s0 r x
    cases e : x == n with
    | true =>
      simp only [List.lookup_cons, e] at h
      cases h
      simp only [List.map_cons]
      split
      · exact .inl (by simp only [List.lookup_cons, e])
      · exact .inr (by simp only [List.lookup_cons, e])
    | false =>
      simp only [List.lookup_cons, e] at h
      simp only [List.map_cons]
      split
      · rcases ih h with z | z
        · exact .inl (by simp only [List.lookup_cons, e]; exact z)
        · exact .inr (by simp only [List.lookup_cons, e]; exact z)
      · rcases ih h with z | z
        · exact .inl (by simp only [List.lookup_cons, e]; exact z)
        · exact .inr (by simp only [List.lookup_cons, e]; exact z)
theorem vis_rel {s0 : Scope} {x : Str} (h : kdV (sc.names.lookup x) = true) : Vis (relS sc s0) x := by
  unfold kdV at h
  split at h
  · exact .inl (relS_keep (by assumption) (by decide))
  · exact .inr (.inl (relS_keep (by assumption) (by decide)))
  · rename_i e
    rcases relS_free (s0 := s0) e with z | z
    · exact .inr (.inl z)
    · exact .inr (.inr z)
  · cases h
theorem cap_rel {s0 : Scope} {x : Str} (h : kdC (sc.names.lookup x) = true) : (relS sc s0).names.lookup x = some .cell ∨ (relS sc s0).names.lookup x = some .free := by
  unfold kdC at h
  split at h
  · exact .inl (relS_keep (by assumption) (by decide))
  · rename_i e
    exact relS_free (s0 := s0) e
  · cases h
theorem loc_rel {s0 : Scope} {x : Str} (h : kdL (sc.names.lookup x) = true) : Loc (relS sc s0) x ∧ ((sc.names.lookup x == some .cell) = true ∨ (relS sc s0).names.lookup x = some .local) := by
  unfold kdL at h
  split at h
  · rename_i e
    exact ⟨.inl (relS_keep e (by decide)), .inr (relS_keep e (by decide))⟩
  · rename_i e
    exact ⟨.inr (relS_keep e (by decide)), .inl (by rw [e]; rfl)⟩
  · cases h
theorem Cxt.blkOk (c : Cxt M X B k) (h : blkT B us ls gs cs sc own = true) : BlkOk X.N X.env.scope sc own := by
  unfold blkT at h
  simp only [Bool.and_eq_true, List.all_eq_true, decide_eq_true_eq] at h
  obtain ⟨h1, h2, h3, h4, _⟩ := h
  refine ⟨?_, h2, by rw [c.hN]; exact h3, fun y hy e => ?_, fun y hy e => ?_⟩
  · split at h1
    · assumption
    · cases h1
  · have q := h4 y hy
    simp only [e, decide_eq_true_eq] at q
    exact c.cs _ q
  · have q := h4 y hy
    rw [c.hN]
    rcases e with e | e <;> (simp only [e, Bool.or_eq_true, decide_eq_true_eq] at q; exact q)
theorem Cxt.blk (c : Cxt M X B k) (h : blkT B us ls gs cs sc own = true) (s : Shared) (H : Hp) (C : Addr) (cl : List (Str × Addr)) (fp : List Addr) : Cxt M (X.blk s H sc (compEnvC sc cl C X.env) fp) (B.blk us ls gs cs) k := by
  unfold blkT at h
  simp only [Bool.and_eq_true, List.all_eq_true, decide_eq_true_eq] at h
  obtain ⟨h1, h2, h3, h4, h5, h6, h7, h8⟩ := h
  refine ⟨c.hP, c.hw, c.hK, c.mg, c.hb, c.hN, c.nd, c.calm, fun z => (Bool.false_ne_true z).elim, c.room, c.gu, fun i hi x hx => ?_, fun i hi x hx => ?_, fun i hi => absurd hi List.not_mem_nil, fun j x hx => ?_, fun x hx => ?_, fun z => (Bool.false_ne_true z).elim, c.lam⟩
  · have q := h5 i hi
    rw [show B.N[i]? = some x from hx] at q
    exact vis_rel q
  · have q := h6 i hi
    rw [show B.N[i]? = some x from hx] at q
    exact loc_rel q
  · have q := h7 x (List.mem_of_getElem? hx)
    unfold kdG at q
    split at q
    · rename_i e
      exact relS_keep e (by decide)
    · cases q
  · exact cap_rel (h8 x hx)
end

/-! ## what is walked -/
structure Sc where
  xs : List PyData
  lv : List (Nat × List PyData)
def lvOk (lv : List (Nat × List PyData)) (st : Sto) : Prop := ∀ p ∈ lv, st[p.1]? = some (.lst p.2)
@[simp] theorem lvOk_nil (st : Sto) : lvOk [] st = True := eq_true fun p hp => absurd hp List.not_mem_nil
theorem lvOk_one (i : Nat) (xs : List PyData) (st : Sto) : lvOk [(i, xs)] st = (st[i]? = some (.lst xs)) := propext ⟨fun h => h (i, xs) (by simp), fun h p hp => by cases List.mem_singleton.mp hp; exact h⟩
theorem lvOk_app (a b : List (Nat × List PyData)) (st : Sto) : lvOk (a ++ b) st = (lvOk a st ∧ lvOk b st) := propext ⟨fun h => ⟨fun p hp => h p (by simp [hp]), fun p hp => h p (by simp [hp])⟩, fun h p hp => (List.mem_append.mp hp).elim (h.1 p) (h.2 p)⟩
structure IsIt (K : Frg) (J : It) (m : Mp) (n : Nat) (H : Hp) (sc : Sc) : Prop where
  go : ∀ i H2 m2 st2, Fol m n H m2 st2.length H2 → Sim K H2 m2 st2 → lvOk sc.lv st2 → i < sc.xs.length → J.go i H2
  stop : ∀ H2 m2 st2, Fol m n H m2 st2.length H2 → Sim K H2 m2 st2 → lvOk sc.lv st2 → J.stop sc.xs.length H2
  yld : ∀ i H2 m2 st2 v H3, Fol m n H m2 st2.length H2 → Sim K H2 m2 st2 → lvOk sc.lv st2 → i < sc.xs.length → J.yld i H2 v H3 → (∀ a o, H2 a = some o → H3 a = some o) ∧ ∃ d, sc.xs[i]? = some d ∧ Rp K H3 (Off m2 st2.length) v d
def tI (X : Cx) (W : WX) (c : En → Sto → Rs Sc) : TI := fun σ H R => ∃ m env st, Sim X.K H m st ∧ EnvR X.K H m st.length env σ ∧
  (c env st).post (fun sc st' => ∀ J H' m', Fol m st.length H m' st'.length H' → Sim X.K H' m' st' → IsIt X.K J m' st'.length H' sc → R J H') (okX X W m st.length H σ)
structure DI (X : Cx) (tg e : Expr) (c : En → Sto → Rs Sc) : Prop where
  pi : ∀ W, Takes X W → PI X tg e (tI X W c)

section
open Classical
/-- the turns of a for -/
noncomputable def forL (g : Wv → En → Option En) (b : En → Sto → SR) (lv : List (Nat × List PyData)) : List PyData → En → Sto → SR
  | [], env, st => if lvOk lv st then .nx env st else .no
  | x :: r, env, st => if lvOk lv st then match g (.d x) env with
      | some env1 => (b env1 st).seq (forL g b lv r)
      | none => .no
    else .no
noncomputable def sFor (c : En → Sto → Rs Sc) (g : Wv → En → Option En) (b : En → Sto → SR) : En → Sto → SR := fun env st => (c env st).sb fun sc st1 => forL g b sc.lv sc.xs env st1
def whL (t : En → Sto → Rs Bool) (b : En → Sto → SR) : Nat → En → Sto → SR
  | 0, _, _ => .no
  | f + 1, env, st => (t env st).sb fun x st1 => if x then (b env st1).seq (whL t b f) else .nx env st1
def sWh (f : Nat) (t : En → Sto → Rs Bool) (b : En → Sto → SR) : En → Sto → SR := whL t b f
def wipeE (env : En) : List Nat → En
  | [] => env
  | i :: vs => (wipeE env vs).set i none
/-- the turns of a comprehension -/
noncomputable def lcL (g : Wv → En → Option En) (t : En → Sto → Rs Bool) (c : En → Sto → Rs Wv) (lv : List (Nat × List PyData)) (env : En) : List PyData → List PyData → Sto → Rs (List PyData)
  | [], acc, st => if lvOk lv st then .ok acc st else .no
  | x :: r, acc, st => if lvOk lv st then match g (.d x) env with
      | some env1 => match t env1 st with
        | .ok true st1 => (match c env1 st1 with
          | .ok (.d y) st2 => lcL g t c lv env r (acc ++ [y]) st2
          | _ => .no)
        | .ok false st1 => lcL g t c lv env r acc st1
        | _ => .no
      | none => .no
    else .no
noncomputable def cLc (ci : En → Sto → Rs Sc) (g : Wv → En → Option En) (t : En → Sto → Rs Bool) (c : En → Sto → Rs Wv) (vs : List Nat) : En → Sto → Rs (List PyData) := fun env st => (ci env st).bind fun sc st1 =>
  if sc.xs.length ≤ 1000000 then lcL g t c sc.lv (wipeE env vs) sc.xs [] st1 else .no
noncomputable def eLc (ci : En → Sto → Rs Sc) (g : Wv → En → Option En) (t : En → Sto → Rs Bool) (c : En → Sto → Rs Wv) (vs : List Nat) : En → Sto → Rs Wv := fun env st => (cLc ci g t c vs env st).bind fun ys st2 => .ok (.d (.list ys)) st2
noncomputable def eLcN (ci : En → Sto → Rs Sc) (g : Wv → En → Option En) (t : En → Sto → Rs Bool) (c : En → Sto → Rs Wv) (vs : List Nat) : En → Sto → Rs Wv := fun env st => (cLc ci g t c vs env st).bind fun ys st2 => .ok (.r st2.length) (st2 ++ [.lst ys])
end
def tYs : En → Sto → Rs Bool := fun _ st => .ok true st
structure DTs (X : Cx) (es : List Expr) (c : En → Sto → Rs Bool) : Prop where
  pts : ∀ W, Takes X W → PTs X es (tT X W c)

section
variable {M : Md} {X : Cx} {B : Tb} {k : Nat} {pins : List (Addr × Obj)} {σ : L2.St} {H : Hp} {s : Shared} {m : Mp} {env : En} {st : Sto} {W : WX} {D : Ends} {pos : Pos}
theorem seq_post {x : SR} {f : En → Sto → SR} {N : En → Sto → Prop} {R : Rt → Sto → Prop} {E : Xc → Sto → Prop} (h : (x.seq f).post N R E) : x.post (fun env st => (f env st).post N R E) R E := by rw [SR.post_seq] at h; exact h
theorem ds_for (c : Cxt M X B k) {tg e : Expr} {body : List Stmt} {ci : En → Sto → Rs Sc} {g : Wv → En → Option En} {cb : En → Sto → SR} (S0 : List Nat) (hi : DI X tg e ci) (hg : DG X S0 tg g) (hb : DB X body cb) (hf : B.fn = true := by rfl)
    (hs : ∀ x, foldedSetIterable e X.env x = pure x := by intro _; rfl) : DS X (.For tg e body [] pos) (sFor ci g cb) := by
  refine ⟨fun W tk => PS.imp (ps_for (c.po hf) c.calm (hi.pi W tk) hg.pg (hb.pss W tk) hs) fun D σ H ⟨m, env, st, S, R, hp⟩ => ?_⟩
  unfold sFor at hp
  rw [Rs.post_sb] at hp
  refine ⟨m, env, st, S, R, Rs.post_mono hp (fun sc st1 q J H1 m1 f1 S1 it => ?_) fun _ _ h => h.x⟩
  generalize hW : (fun (i mm : Nat) (σ' : L2.St) (H' : Hp) => mm = sc.xs.length - i ∧ i ≤ sc.xs.length ∧ ∃ m2 env2 st2, Fol m1 st1.length H1 m2 st2.length H' ∧ Sim X.K H' m2 st2 ∧ EnvR X.K H' m2 st2.length env2 σ' ∧
    (forL g cb sc.lv (sc.xs.drop i) env2 st2).post (okN X m st.length H D) (okR X m st.length H D) (okXs X W m st.length H)) = Wf
  refine ⟨Wf, by rw [← hW]; exact ⟨_, rfl, Nat.zero_le _, m1, env, st1, .refl, S1, R.mv f1, by simpa using q⟩, ?_⟩
  intro i mm σ2 H2 w
  rw [← hW] at w
  obtain ⟨rfl, hi2, m2, env2, st2, f2, S2, R2, q2⟩ := w
  by_cases hlt : i < sc.xs.length
  · rw [List.drop_eq_getElem_cons hlt] at q2
    unfold forL at q2
    split at q2
    · rename_i hl
      split at q2
      · rename_i env3 he3
        refine .inr ⟨it.go i H2 m2 st2 f2 S2 hl hlt, Wf (i + 1) (sc.xs.length - (i + 1)), fun σ' H' z => ⟨_, by omega, z⟩, fun v H3 y => ?_⟩
        obtain ⟨g3, d, hd, r3⟩ := it.yld i H2 m2 st2 v H3 f2 S2 hl hlt y
        rw [List.getElem?_eq_getElem hlt] at hd
        cases hd
        refine ⟨m2, st2.length, env2, .d sc.xs[i], env3, r3, R2.mv (.same g3), he3, fun σ3 R3 _ => ?_⟩
        refine ⟨m2, env3, st2, S2.grow g3, R3, SR.post_mono (seq_post q2) (fun env4 st4 q4 σ4 H4 m4 f4 S4 R4 => ?_) (fun p st4 q4 => ?_) fun e st4 q4 => ?_⟩
        · rw [← hW]; exact ⟨rfl, hlt, m4, env4, st4, (f2.trans (.same g3)).trans f4, S4, R4, q4⟩
        · exact okR.tr ((f1.trans f2).trans (.same g3)) q4
        · exact okXs.tr ((f1.trans f2).trans (.same g3)) q4
      · exact q2.elim
    · exact q2.elim
  · have e : i = sc.xs.length := by omega
    subst e
    rw [List.drop_length] at q2
    unfold forL at q2
    split at q2
    · rename_i hl
      exact .inl ⟨it.stop H2 m2 st2 f2 S2 hl, q2 σ2 H2 m2 (f1.trans f2) S2 R2⟩
    · exact q2.elim
theorem ds_wh (c : Cxt M X B k) {t : Expr} {body : List Stmt} {ct : En → Sto → Rs Bool} {cb : En → Sto → SR} (f : Nat) (ht : DT X t ct) (hb : DB X body cb) (hf : B.fn = true := by rfl) : DS X (.While t body [] pos) (sWh f ct cb) := by
  refine ⟨fun W tk => PS.imp (ps_while (c.po hf) (ht.pt W tk) (hb.pss W tk)) fun D σ H ⟨m, env, st, S, R, hp⟩ => ?_⟩
  generalize hW : (fun (mm : Nat) (σ' : L2.St) (H' : Hp) => ∃ m2 env2 st2, Fol m st.length H m2 st2.length H' ∧ Sim X.K H' m2 st2 ∧ EnvR X.K H' m2 st2.length env2 σ' ∧
    (whL ct cb mm env2 st2).post (okN X m st.length H D) (okR X m st.length H D) (okXs X W m st.length H)) = Wf
  refine ⟨Wf, by rw [← hW]; exact ⟨f, m, env, st, .refl, S, R, hp⟩, ?_⟩
  intro mm σ2 H2 w
  rw [← hW] at w
  obtain ⟨m2, env2, st2, f2, S2, R2, q2⟩ := w
  cases mm with
  | zero => exact q2.elim
  | succ mm =>
    unfold whL at q2
    rw [Rs.post_sb] at q2
    refine ⟨m2, env2, st2, S2, R2, Rs.post_mono q2 (fun x st3 q3 H3 m3 f3 S3 => ?_) fun e st3 h => (okXs.tr f2 h).x⟩
    cases x with
    | true =>
      refine ⟨Wf mm, fun σ' H' z => ⟨mm, Nat.lt_succ_self _, z⟩, m3, env2, st3, S3, R2.mv f3, SR.post_mono (seq_post q3) (fun env4 st4 q4 σ4 H4 m4 f4 S4 R4 => ?_) (fun p st4 q4 => ?_) fun e st4 q4 => ?_⟩
      · rw [← hW]; exact ⟨m4, env4, st4, (f2.trans f3).trans f4, S4, R4, q4⟩
      · exact okR.tr (f2.trans f3) q4
      · exact okXs.tr (f2.trans f3) q4
    | false => exact q3 σ2 H3 m3 (f2.trans f3) S3 (R2.mv f3)

theorem EnvR.unset {K : Frg} {n : Nat} (h : EnvR K H m n env σ) (i : Nat) : EnvR K H m n (env.set i none) (σ.set i none) := by
  refine ⟨by simp [h.len], fun j u e => ?_⟩
  by_cases q : i = j
  · subst q
    by_cases l : i < env.length
    · rw [List.getElem?_set_self l] at e; cases e
    · rw [List.getElem?_eq_none (by simpa using l)] at e; cases e
  · rw [List.getElem?_set_ne q] at e
    obtain ⟨x, h1, h2⟩ := h.at' j u e
    exact ⟨x, by rw [List.getElem?_set_ne q]; exact h1, h2⟩
theorem EnvR.wipe {K : Frg} {n : Nat} (h : EnvR K H m n env σ) : ∀ vs : List Nat, EnvR K H m n (wipeE env vs) (wipe σ vs)
  | [] => h
  | i :: vs => (EnvR.wipe h vs).unset i
theorem wipe_len (σ : L2.St) : ∀ vs : List Nat, (L2.wipe σ vs).length = σ.length
  | [] => rfl
  | i :: vs => by simp [L2.wipe, wipe_len σ vs]
theorem wipe_in {σ : L2.St} {i : Nat} : ∀ {vs : List Nat}, i ∈ vs → i < σ.length → (L2.wipe σ vs)[i]? = some none
  | j :: vs, h, l => by
    show ((L2.wipe σ vs).set j none)[i]? = some none
    by_cases e : j = i
    · subst e; exact List.getElem?_set_self (by rw [wipe_len]; exact l)
    · rw [List.getElem?_set_ne e]
      exact wipe_in ((List.mem_cons.mp h).resolve_left fun z => e z.symm) l
theorem But.wipe {S : List Nat} {vs : List Nat} {σ σ2 : L2.St} (b : But S (L2.wipe σ vs) σ2) (h : ∀ i ∈ S, i ∈ vs) : L2.wipe σ2 vs = L2.wipe σ vs := by
  have hl : σ2.length = σ.length := b.1.trans (wipe_len σ vs)
  refine List.ext_getElem? fun i => ?_
  by_cases q : i ∈ vs
  · by_cases l : i < σ.length
    · rw [wipe_in q (by rw [hl]; exact l), wipe_in q l]
    · rw [List.getElem?_eq_none (by rw [wipe_len, hl]; omega), List.getElem?_eq_none (by rw [wipe_len]; omega)]
  · rw [wipe_out q, b.2 i fun z => q (h i z)]
theorem dts_nil : DTs X [] tYs := ⟨fun W tk => ⟨fun pins s σ H Q I ⟨m, env, st, S, R, hp⟩ => pts_nil.run pins s σ H Q I (hp H m .refl S)⟩⟩
theorem dts_one {e : Expr} {c : En → Sto → Rs Bool} (h : DT X e c) : DTs X [e] c := ⟨fun W tk => pts_one (h.pt W tk)⟩
def Wno : WX := fun _ _ _ _ => False
theorem takes_no {X : Cx} : Takes X Wno := fun u s' ⟨a, B, sI, pins, σ, H, cls, d, e, I, nb, up, sky, na, os, ag, w⟩ => w.elim
theorem Rs.post_or {α : Type} {x : Rs α} {Q : α → Sto → Prop} {R : Xc → Sto → Prop} (h : x.post Q R) : (∃ a st, x = .ok a st ∧ Q a st) ∨ ∃ e st, x = .ex e st ∧ R e st := by
  cases x with
  | ok a st => exact .inl ⟨a, st, rfl, h⟩
  | ex e st => exact .inr ⟨e, st, rfl, h⟩
  | no => exact h.elim
/-- D is being made -/
def Mp.with (m : Mp) (D : Addr) : Mp := ⟨m.ix, fun a => m.F a ∨ a = D⟩
def Mp.done (m : Mp) (D : Addr) : Mp := ⟨m.ix, fun a => m.F a ∧ a ≠ D⟩
theorem Sim.sub {K : Frg} {m' : Mp} (S : Sim K H m st) (hi : m'.ix = m.ix) (hF : ∀ a, m'.F a → m.F a) : Sim K H m' st := by
  have kp : Kp K H (Off m st.length) H (Off m' st.length) := ⟨fun _ _ h => h, fun _ _ _ h => h, fun a o _ h z => ⟨h, by rw [hi]; exact z.1, fun q => z.2 (hF a q)⟩⟩
  refine ⟨fun i o e => ?_, fun i j => by rw [hi]; exact S.inj i j, fun a q => S.ff a (hF a q), fun i h q => S.fi i h (by rw [hi] at q; exact hF _ q), S.tb⟩
  have h := S.ob i o e
  rw [hi]
  cases o with
  | lst xs => obtain ⟨vs, h1, h2⟩ := h; exact ⟨vs, h1, h2.mv kp⟩
  | dct kvs => obtain ⟨vs, h1, h2⟩ := h; exact ⟨vs, h1, RpK.kp kp _ _ h2⟩
  | dtt kvs => obtain ⟨vs, h1, h2⟩ := h; exact ⟨vs, h1, RpT.kp kp _ _ h2⟩
  | lkd es => exact Rp.mv h kp
  | lkl xs => exact FzL.mv h kp
theorem off_done {n : Nat} {D : Addr} : ∀ a, Off m n a → Off (m.done D) n a := fun a z => ⟨z.1, fun q => z.2 q.1⟩
theorem Sim.start {K : Frg} {D : Addr} {o : HO} (S : Sim K H m st) (hn : H D = none) (nt : NT o := by exact fun _ z => nomatch z) : Sim K (upd H D o) (m.with D) st ∧ Fol m st.length H (m.with D) st.length (upd H D o) := by
  have g := grow_upd (o := o) hn
  have f : Fol m st.length H (m.with D) st.length (upd H D o) := ⟨fun a _ h => g a _ h, fun a _ _ h => g a _ h, fun a _ _ h _ => g a _ h, fun _ _ => rfl, fun i a b => absurd b (by omega), Nat.le_refl _, domOf g, fun a h =>
    ⟨fun q => q.resolve_right fun e => nn_no hn (e ▸ h), fun q => .inl q⟩⟩
  refine ⟨⟨fun i o e => (S.ob i o e).mv f fun u => g _ u, S.inj, fun a q => ?_, fun i hi q => ?_, S.tb.ext g⟩, f⟩
  · rcases q with q | q
    · exact domOf g a (S.ff a q)
    · rw [q]; exact ⟨o, upd_same, nt⟩
  · rcases q with q | q
    · exact S.fi i hi q
    · exact nn_no hn (by have := S.there hi; rwa [show m.ix i = D from q] at this)
theorem Fol.done {n n2 : Nat} {m2 : Mp} {H2 : Hp} {D : Addr} (f : Fol m n H m2 n2 H2) (hn : ¬ Nn H D) : Fol m n H (m2.done D) n2 H2 :=
  ⟨f.tup, f.frz, f.rest, f.old, f.new, f.le, f.dom, fun a h => ⟨fun q => (f.eF a h).mp q.1, fun q => ⟨(f.eF a h).mpr q, fun e => hn (e ▸ h)⟩⟩⟩
theorem Fol.doneN {n n2 : Nat} {m2 : Mp} {H2 : Hp} {D : Addr} (f : Fol m n H m2 n2 H2) (hn : ¬ Nn H D) : Fol m n H (mup (m2.done D) n2 D) (n2 + 1) H2 where
  tup := f.tup
  frz := f.frz
  rest := f.rest
  old i hi := by rw [mup_old (Nat.lt_of_lt_of_le hi f.le)]; exact f.old i hi
  new i h1 h2 := by
    by_cases q : i < n2
    · rw [mup_old q]; exact f.new i h1 q
    · have e : i = n2 := by omega
      rw [e, mup_new]; exact hn
  le := Nat.le_succ_of_le f.le
  dom := f.dom
  eF := (f.done hn).eF
theorem off_new {n : Nat} {D : Addr} (hF : m.F D) {a : Addr} (z : Off m n a) : Off (mup (m.done D) n D) (n + 1) a := by
  refine ⟨fun i hi => ?_, fun q => z.2 q.1⟩
  by_cases q : i < n
  · rw [mup_old q]; exact z.1 i q
  · have e : i = n := by omega
    rw [e, mup_new]
    exact fun e => z.2 (e ▸ hF)
/-- what was being made becomes the store's newest -/
theorem Sim.made {K : Frg} {D : Addr} {xs : List V} {ds : List PyData} (S : Sim K H m st) (hF : m.F D) (hD : H D = some (.lst xs)) (r : RpA K H (Off m st.length) xs ds) : Sim K H (mup (m.done D) st.length D) (st ++ [.lst ds]) := by
  have kp : Kp K H (Off m st.length) H (Off (mup (m.done D) st.length D) (st.length + 1)) := ⟨fun _ _ h => h, fun _ _ _ h => h, fun a o _ h z => ⟨h, off_new hF z⟩⟩
  have hl : (st ++ [Ob.lst ds]).length = st.length + 1 := by simp
  have hx : ∀ i, i < st.length → m.ix i ≠ D := fun i hi e => S.fi i hi (e ▸ hF)
  refine ⟨fun i u e => ?_, fun i j hi hj e => ?_, fun a z => S.ff a z.1, fun i hi => ?_, S.tb⟩
  · rw [hl]
    by_cases q : i < st.length
    · rw [List.getElem?_append_left q] at e
      rw [mup_old q]
      have h := S.ob i u e
      cases u with
      | lst xs => obtain ⟨vs, h1, h2⟩ := h; exact ⟨vs, h1, h2.mv kp⟩
      | dct kvs => obtain ⟨vs, h1, h2⟩ := h; exact ⟨vs, h1, RpK.kp kp _ _ h2⟩
      | dtt kvs => obtain ⟨vs, h1, h2⟩ := h; exact ⟨vs, h1, RpT.kp kp _ _ h2⟩
      | lkd es => exact Rp.mv h kp
      | lkl xs => exact FzL.mv h kp
    · have e2 : i = st.length := by
        have := (List.getElem?_eq_some_iff.mp e).1
        rw [hl] at this
        omega
      subst e2
      simp at e
      subst e
      rw [mup_new]
      exact ⟨xs, hD, r.mv kp⟩
  · rw [hl] at hi hj
    by_cases h1 : i < st.length
    · by_cases h2 : j < st.length
      · rw [mup_old h1, mup_old h2] at e
        exact S.inj i j h1 h2 e
      · have : j = st.length := by omega
        subst this
        rw [mup_old h1, mup_new] at e
        exact absurd e (hx i h1)
    · have : i = st.length := by omega
      subst this
      by_cases h2 : j < st.length
      · rw [mup_new, mup_old h2] at e
        exact absurd e.symm (hx j h2)
      · omega
  · rw [hl] at hi
    by_cases q : i < st.length
    · rw [mup_old q]; exact fun z => S.fi i q z.1
    · have : i = st.length := by omega
      subst this
      rw [mup_new]
      exact fun z => z.2 rfl
/-- one more item -/
theorem _root_.LamX.Tabs.wr {T : List (Addr × Str)} {D : Addr} {o o' : HO} (t : LamX.Tabs T H) (hD : H D = some o) (ho : (∃ xs, o = .lst xs) ∨ (∃ kvs, o = .dK kvs) ∨ ∃ kvs, o = .dT kvs) : LamX.Tabs T (upd H D o') := fun p hp => by
  obtain ⟨ps, h1, h2, h3⟩ := t p hp
  refine ⟨ps, ?_, h2, fun pos cv hc => ?_⟩
  · rw [upd_ne]; exact h1
    intro e; rw [e, hD] at h1
    rcases ho with ⟨_, rfl⟩ | ⟨_, rfl⟩ | ⟨_, rfl⟩ <;> cases h1
  · obtain ⟨c, e, hq⟩ := h3 pos cv hc
    refine ⟨c, e, ?_⟩
    rw [upd_ne]; exact hq
    intro e2; rw [e2, hD] at hq
    rcases ho with ⟨_, rfl⟩ | ⟨_, rfl⟩ | ⟨_, rfl⟩ <;> cases hq
theorem Kp.push {K : Frg} {n : Nat} {D : Addr} {xs ys : List V} (hF : m.F D) (hD : H D = some (.lst ys)) : Kp K H (Off m n) (upd H D (.lst xs)) (Off m n) := by
  refine ⟨fun a us h => ?_, fun a o u h => ?_, fun a o _ h z => ⟨?_, z⟩⟩
  · rw [upd_ne]; exact h
    intro e; rw [e, hD] at h; cases h
  · rw [upd_ne]; exact h
    intro e; rw [e, hD] at h; cases h
  · rw [upd_ne]; exact h
    exact fun e => z.2 (e ▸ hF)
theorem Sim.push {K : Frg} {D : Addr} {xs ys : List V} (S : Sim K H m st) (hF : m.F D) (hD : H D = some (.lst ys)) : Sim K (upd H D (.lst xs)) m st := by
  have kp := Kp.push (K := K) (n := st.length) (xs := xs) hF hD
  refine ⟨fun i u e => ?_, S.inj, fun a z => ?_, S.fi, S.tb.wr hD (.inl ⟨_, rfl⟩)⟩
  · have h := S.ob i u e
    have hi : i < st.length := (List.getElem?_eq_some_iff.mp e).1
    have hx : m.ix i ≠ D := fun e => S.fi i hi (e ▸ hF)
    cases u with
    | lst xs => obtain ⟨vs, h1, h2⟩ := h; exact ⟨vs, by rw [upd_ne hx]; exact h1, h2.mv kp⟩
    | dct kvs => obtain ⟨vs, h1, h2⟩ := h; exact ⟨vs, by rw [upd_ne hx]; exact h1, RpK.kp kp _ _ h2⟩
    | dtt kvs => obtain ⟨vs, h1, h2⟩ := h; exact ⟨vs, by rw [upd_ne hx]; exact h1, RpT.kp kp _ _ h2⟩
    | lkd es => exact Rp.mv h kp
    | lkl xs => exact FzL.mv h kp
  · by_cases e : a = D
    · rw [e]; exact ⟨_, upd_same, nt_lst⟩
    · obtain ⟨o, h, nt⟩ := S.ff a z
      exact ⟨o, by rw [upd_ne e]; exact h, nt⟩
theorem Fol.done2 {n n2 : Nat} {m2 : Mp} {H2 : Hp} (D : Addr) (f : Fol m n H m2 n2 H2) : Fol (m.done D) n H (m2.done D) n2 H2 :=
  ⟨f.tup, f.frz, f.rest, f.old, f.new, f.le, f.dom, fun a h => and_congr (f.eF a h) Iff.rfl⟩
theorem Fol.updD {n n2 : Nat} {m2 : Mp} {H2 : Hp} {D : Addr} {o : HO} (f : Fol m n H m2 n2 H2) (hn : ¬ Nn H D) (nt : NT o := by exact fun _ z => nomatch z) : Fol m n H m2 n2 (upd H2 D o) := by
  have nd : ∀ {a o}, H a = some o → NT o → a ≠ D := fun h nt e => hn ⟨_, e ▸ h, nt⟩
  exact ⟨fun a xs h => by rw [upd_ne (nd h fun _ z => nomatch z)]; exact f.tup a xs h, fun a o u h => by rw [upd_ne (nd h fun _ z => nomatch z)]; exact f.frz a o u h, fun a o nt h z => by rw [upd_ne (nd h nt)]; exact f.rest a o nt h z, f.old, f.new, f.le, fun a h => by
    by_cases e : a = D
    · rw [e]; exact ⟨_, upd_same, nt⟩
    · obtain ⟨o2, h2, nt2⟩ := f.dom a h
      exact ⟨o2, by rw [upd_ne e]; exact h2, nt2⟩
  , f.eF⟩
theorem Fol.undone {n n2 : Nat} {m2 : Mp} {H2 : Hp} {D : Addr} (f : Fol m n H (m2.done D) n2 H2) (hn : ¬ Nn H D) : Fol m n H m2 n2 H2 :=
  ⟨f.tup, f.frz, f.rest, f.old, f.new, f.le, f.dom, fun a h => ⟨fun q => (f.eF a h).mp ⟨q, fun e => hn (e ▸ h)⟩, fun q => ((f.eF a h).mpr q).1⟩⟩
/-- a comprehension, the new list at D -/
theorem lc_tLc {ci : En → Sto → Rs Sc} {g : Wv → En → Option En} {t : En → Sto → Rs Bool} {c : En → Sto → Rs Wv} {vs : List Nat} {S0 : List Nat} {tg : TG} {Q : VK} (hS : ∀ i ∈ S0, i ∈ vs)
    (htg : ∀ v σ H Q, (∃ m n env w env', RW X.K H m n v w ∧ EnvR X.K H m n env σ ∧ g w env = some env' ∧ ∀ σ', EnvR X.K H m n env' σ' → But S0 σ σ' → Q σ' H) → tg v σ H Q)
    (S : Sim X.K H m st) (R : EnvR X.K H m st.length env σ)
    (hp : (cLc ci g t c vs env st).post (fun ys st' => ∀ D H' m' xs, ¬ Nn H D → Fol m st.length H (m'.done D) st'.length H' → Sim X.K H' m' st' → m'.F D → H' D = some (.lst xs) → RpA X.K H' (Off m' st'.length) xs ys → Q (.ref D) H') (okX X W m st.length H σ)) :
    tLc (tI X W ci) tg (tT X Wno t) (tE X Wno c) vs σ H Q := by
  unfold cLc at hp
  rw [Rs.post_bind] at hp
  refine ⟨m, env, st, S, R, Rs.post_mono hp (fun sc st1 q J H1 m1 f1 S1 it => ?_) fun _ _ h => h⟩
  split at q
  · rename_i hlen
    intro D hD
    have hD0 : ¬ Nn H D := fun z => nn_no hD (f1.dom D z)
    obtain ⟨S0', f0⟩ := S1.start (D := D) (o := .lst []) hD
    generalize hW : (fun (i mm : Nat) (Hc : Hp) => mm = sc.xs.length - i ∧ i ≤ sc.xs.length ∧ ∃ m2 st2 acc us, Fol m1 st1.length H1 (m2.done D) st2.length Hc ∧ Sim X.K Hc m2 st2 ∧ m2.F D ∧ Hc D = some (.lst us) ∧ RpA X.K Hc (Off m2 st2.length) us acc ∧ acc.length ≤ i ∧
      (lcL g t c sc.lv (wipeE env vs) (sc.xs.drop i) acc st2).post (fun ys st' => ∀ D H' m' xs, ¬ Nn H D → Fol m st.length H (m'.done D) st'.length H' → Sim X.K H' m' st' → m'.F D → H' D = some (.lst xs) → RpA X.K H' (Off m' st'.length) xs ys → Q (.ref D) H') (okX X W m st.length H σ)) = Wf
    refine ⟨Wf, ⟨_, by rw [← hW]; exact ⟨rfl, Nat.zero_le _, m1.with D, st1, [], [], f0.done (nn_no hD), S0', .inr rfl, upd_same, .nil, Nat.le_refl _, by simpa using q⟩⟩, ?_⟩
    intro i mm Hc w
    rw [← hW] at w
    obtain ⟨rfl, hi2, m2, st2, acc, us, f2, S2, F2, hc2, r2, ha2, q2⟩ := w
    by_cases hlt : i < sc.xs.length
    · rw [List.drop_eq_getElem_cons hlt] at q2
      unfold lcL at q2
      split at q2
      · rename_i hl
        split at q2
        · rename_i env3 he3
          refine .inr ⟨it.go i Hc m2 st2 (f2.undone (nn_no hD)) S2 hl hlt, Wf (i + 1) (sc.xs.length - (i + 1)), fun H' z => ⟨_, by omega, z⟩, fun v H3 y => ?_⟩
          obtain ⟨g3, d, hd, r3⟩ := it.yld i Hc m2 st2 v H3 (f2.undone (nn_no hD)) S2 hl hlt y
          rw [List.getElem?_eq_getElem hlt] at hd
          cases hd
          have fe : Fol m st.length H m2 st2.length H3 := (f1.trans (f2.undone (nn_no hD))).trans (.same g3)
          refine htg _ _ _ _ ⟨m2, st2.length, wipeE env vs, .d sc.xs[i], env3, r3, (R.mv fe).wipe vs, he3, fun σ3 R3 b3 => ⟨b3.wipe hS, ?_⟩⟩
          refine ⟨m2, env3, st2, S2.grow g3, R3, ?_⟩
          split at q2
          · rename_i st4 ht4
            rw [ht4]
            intro H4 m4 f4 S4
            rw [if_pos rfl]
            refine ⟨m4, env3, st4, S4, R3.mv f4, ?_⟩
            split at q2
            · rename_i y5 st5 hc5
              rw [hc5]
              intro v5 H5 m5 f5 S5 r5
              have c3 : H3 D = some (.lst us) := g3 _ _ hc2
              have fD : Fol m2 st2.length Hc m5 st5.length H5 := (Fol.same g3).trans (f4.trans f5)
              have nD : ∀ i, i < st2.length → m2.ix i ≠ D := fun i hi e => S2.fi i hi (e ▸ F2)
              have c5 : H5 D = some (.lst us) := fD.rest _ _ nt_lst hc2 nD
              have F5 : m5.F D := (fD.eF D ⟨_, hc2, nt_lst⟩).mpr F2
              have kp : Kp X.K H5 (Off m5 st5.length) (upd H5 D (.lst (us ++ [v5]))) (Off m5 st5.length) := .push F5 c5
              refine ⟨us, c5, ?_, ?_⟩
              · have : us.length = acc.length := r2.len
                have := line_lim
                omega
              · rw [← hW]
                refine ⟨rfl, hlt, m5, st5, acc ++ [y5], us ++ [v5], ?_, S5.push F5 c5, F5, upd_same, ?_, ?_, q2⟩
                · exact (f2.trans (fD.done2 D)).updD (nn_no hD)
                · exact ((r2.mv fD.kp).app (.cons r5 .nil)).mv kp
                · simp; exact ha2
            · exact q2.elim
          · rename_i st4 ht4
            rw [ht4]
            intro H4 m4 f4 S4
            rw [if_neg Bool.false_ne_true]
            have fD : Fol m2 st2.length Hc m4 st4.length H4 := (Fol.same g3).trans f4
            have nD : ∀ i, i < st2.length → m2.ix i ≠ D := fun i hi e => S2.fi i hi (e ▸ F2)
            have c5 : H4 D = some (.lst us) := fD.rest _ _ nt_lst hc2 nD
            have F5 : m4.F D := (fD.eF D ⟨_, hc2, nt_lst⟩).mpr F2
            rw [← hW]
            exact ⟨rfl, hlt, m4, st4, acc, us, f2.trans (fD.done2 D), S4, F5, c5, r2.mv fD.kp, Nat.le_succ_of_le ha2, q2⟩
          · exact q2.elim
        · exact q2.elim
      · exact q2.elim
    · have e : i = sc.xs.length := by omega
      subst e
      rw [List.drop_length] at q2
      unfold lcL at q2
      split at q2
      · rename_i hl
        exact .inl ⟨it.stop Hc m2 st2 (f2.undone (nn_no hD)) S2 hl, q2 D Hc m2 us hD0 ((f1.trans (f2.undone (nn_no hD))).done hD0) S2 F2 hc2 r2⟩
      · exact q2.elim
  · exact q.elim
end
end

section
variable [Wtp] [Tbl]

/-! ## enumerate and zip over lists and tuples of any mix -/
inductive Kd where
  | l
  | t
namespace Kd
def ob : Kd → Addr → Obj
  | l, a => { cls := .type "list_iterator", data := .fields #[.ref a, .int 0 0] }
  | t, a => { cls := .type "tuple_iterator", data := .fields #[.ref a, .int 0 0] }
def it (q : Kd) (h : Heap) (i a : Addr) (n : Nat) : Prop := match q with
  | l => h.IsListIter i a n
  | t => h.IsTupleIter i a n
def here (q : Kd) (h : Heap) (a : Addr) (xs : Array Value) : Prop := match q with
  | l => h.IsList a xs
  | t => h.IsTuple a xs
def sq (q : Kd) (K : Frg) (H : Hp) (a : Addr) (xs : List V) : Prop := match q with
  | l => SqL K H a xs
  | t => SqT K H a xs
section
variable {q : Kd} {h h' : Heap} {i a : Addr} {n : Nat} {xs : Array Value}
theorem begins (q : Kd) (a : Addr) (xs : Array Value) : Begins (.ref a) (q.ob a) fun h => q.here h a xs := by
  cases q with
  | l => exact begins_list a xs
  | t => exact begins_tuple a xs
theorem free (q : Kd) (a : Addr) : (q.ob a).isFreed = false := by cases q <;> rfl
theorem first (e : h.get? i = some (q.ob a)) : q.it h i a 0 := by
  cases q with
  | l => exact ⟨_, e, rfl, rfl⟩
  | t => exact ⟨_, e, rfl, rfl⟩
theorem draws {prog : Program} {w : World} {A : Around} (q : Kd) (hh : A.handled = none) (hne : a ≠ i) (xs : Array Value) : Draws prog w A i [i, a] xs.size (fun j v => xs[j]? = some v) (fun j h => q.it h i a j ∧ q.here h a xs) := by
  cases q with
  | l => exact .list hh i a hne xs
  | t => exact .tuple hh i a hne xs
theorem it_at (s : q.it h i a n) (k : ∀ o, h.get? i = some o → h'.get? i = some o) : q.it h' i a n := by
  cases q with
  | l => exact Heap.IsListIter.at s k
  | t => exact Heap.IsTupleIter.at s k
theorem it_ob (s : q.it h i a n) : ∃ o, h.get? i = some o ∧ ∀ v, o.data ≠ .cell v := by
  cases q with
  | l => obtain ⟨o, e, _, d⟩ := s; exact ⟨o, e, fun v z => by rw [d] at z; cases z⟩
  | t => obtain ⟨o, e, _, d⟩ := s; exact ⟨o, e, fun v z => by rw [d] at z; cases z⟩
end
section
variable {X : Cx} {q : Kd} {pins : List (Addr × Obj)} {σ : L2.St} {H : Hp} {s : Shared} {a : Addr} {xs ys : List V}
theorem of (I : Inv X pins σ H s) (h : q.sq X.K H a xs) : ∃ us : List Value, Vals xs us ∧ q.here s.heap a us.toArray := by
  cases q with
  | l => obtain ⟨us, r, p, _⟩ := I.list h; exact ⟨us, r, p.isList⟩
  | t => obtain ⟨us, r, p, _⟩ := I.tuple h; exact ⟨us, r, p⟩
theorem inj (I : Inv X pins σ H s) (h : q.sq X.K H a xs) (h' : q.sq X.K H a ys) : xs = ys := by
  cases q with
  | l => exact I.list_inj h h'
  | t => exact I.tuple_inj h h'
theorem apart (I : Inv X pins σ H s) {i : Addr} (hf : FpOk X pins H i) {n : Nat} {b : Addr} (st : q.it s.heap i b n) {us : Array Value} {p : Kd} (h : p.here s.heap a us) : a ≠ i := by
  intro e
  subst e
  cases p <;> cases q <;> (obtain ⟨o, e1, c1, _⟩ := h; obtain ⟨o2, e2, c2, d2⟩ := st; rw [e1] at e2; cases e2; rw [c1] at c2; exact absurd c2 (by decide))
end
theorem other {q : Kd} {h : Heap} {a : Addr} {xs : Array Value} {o : Obj} {T : String} (p : q.here h a xs) (e : h.get? a = some o) (c : o.cls = .type T) (h1 : T ≠ "list") (h2 : T ≠ "tuple") : False := by
  cases q with
  | l => obtain ⟨o', e1, c1, _⟩ := p; rw [e] at e1; cases e1; rw [c] at c1; exact h1 (by cases c1; rfl)
  | t => obtain ⟨o', e1, c1, _⟩ := p; rw [e] at e1; cases e1; rw [c] at c1; exact h2 (by cases c1; rfl)
end Kd
/-- a new pair at each turn -/
def JZ (K : Frg) (p q : Kd) (a b : Addr) : It :=
  ⟨fun i H => ∃ xs ys x y, p.sq K H a xs ∧ q.sq K H b ys ∧ xs[i]? = some x ∧ ys[i]? = some y,
   fun i H v H' => ∃ T x y, v = .ref T ∧ H T = none ∧ H' = upd H T (.tup [x, y]) ∧ (∀ xs, p.sq K H a xs → xs[i]? = some x) ∧ ∀ ys, q.sq K H b ys → ys[i]? = some y,
   fun i H => ∃ xs ys, p.sq K H a xs ∧ q.sq K H b ys ∧ i = min xs.length ys.length⟩
def JZ3 (K : Frg) (p q r : Kd) (a b c : Addr) : It :=
  ⟨fun i H => ∃ xs ys zs x y z, p.sq K H a xs ∧ q.sq K H b ys ∧ r.sq K H c zs ∧ xs[i]? = some x ∧ ys[i]? = some y ∧ zs[i]? = some z,
   fun i H v H' => ∃ T x y z, v = .ref T ∧ H T = none ∧ H' = upd H T (.tup [x, y, z]) ∧ (∀ xs, p.sq K H a xs → xs[i]? = some x) ∧ (∀ ys, q.sq K H b ys → ys[i]? = some y) ∧ ∀ zs, r.sq K H c zs → zs[i]? = some z,
   fun i H => ∃ xs ys zs, p.sq K H a xs ∧ q.sq K H b ys ∧ r.sq K H c zs ∧ i = min (min xs.length ys.length) zs.length⟩
def JE (K : Frg) (p : Kd) (a : Addr) : It :=
  ⟨fun i H => ∃ xs x, p.sq K H a xs ∧ xs[i]? = some x,
   fun i H v H' => ∃ T x, v = .ref T ∧ H T = none ∧ H' = upd H T (.tup [.int (i : Nat), x]) ∧ ∀ xs, p.sq K H a xs → xs[i]? = some x,
   fun i H => ∃ xs, p.sq K H a xs ∧ i = xs.length⟩
section
variable {P : Program} {w : World} {K : Frg} {elts : List Expr} {kk : Nat} {tpos : Pos}
theorem turn_JE (p : Kd) (a e i : Addr) (hei : e ≠ i) : Turn P w K (.Tuple elts kk tpos) (JE K p a) [e, i] e (fun n h => (∃ old, IsEnum h e i ((0 : Int) + (n : Int)) old) ∧ p.it h i a n) where
  mem := by simp
  obj := fun n h st b hb => by
    obtain ⟨⟨old, he⟩, hi⟩ := st
    rcases (show b = e ∨ b = i by simpa using hb) with z | z
    · subst z; exact ⟨_, he, fun v q => nomatch q⟩
    · subst z; exact Kd.it_ob hi
  keep := fun n h h' st k => by
    obtain ⟨⟨old, he⟩, hi⟩ := st
    exact ⟨⟨old, k e (by simp) _ he⟩, Kd.it_at hi fun o q => k i (by simp) o q⟩
  item := by
    intro X hP hw hK hc n pins s σ H E I hf st hg
    subst hP hw hK
    obtain ⟨⟨old, he⟩, hi⟩ := st
    obtain ⟨xs, x, hx, ex⟩ := hg
    obtain ⟨us, rv, hu⟩ := Kd.of I hx
    obtain ⟨u, eu, ru⟩ := rv.get ex
    have hai : a ≠ i := Kd.apart I (hf i (by simp)) hi hu
    have hae : a ≠ e := fun z => Kd.other hu (by rw [z]; exact he) rfl (by decide) (by decide)
    have G := GoesN.enumFrom (elts := elts) (x1 := kk) (pos := tpos) 0 (p.draws (prog := X.prog) (w := X.w) (A := X.A.in1) (i := i) (a := a) (show X.A.in1.handled = none from I.ok.hd hc) hai us.toArray) e hei (by simp [hei, Ne.symm hae]) (by simp)
    have hlt : n < us.toArray.size := by have := (List.getElem?_eq_some_iff.mp eu).1; simpa using this
    refine wpAny_mono (G.goes n s (fun v s2 => ∃ x' H', Inv X pins σ H' s2 ∧ RelV x' v ∧ (JE X.K p a).yld n H x' H' ∧ ((∃ old, IsEnum s2.heap e i ((0 : Int) + ((n + 1 : Nat) : Int)) old) ∧ p.it s2.heap i a (n + 1)) ∧ ∀ b ∈ [e, i], H' b = none) E hlt ⟨⟨old, he⟩, hi, hu⟩ fun v h' tk y st' keep _ => ?_) (fun r s1 ⟨v, e1, q⟩ => ⟨v, e1, q⟩) fun _ _ z => z
    obtain ⟨T, t, x2, ev, hT, ex2, hI⟩ := y
    subst ev
    have e2 : x2 = u := by
      have : us[n]? = some x2 := by simpa using ex2
      rw [eu] at this; cases this; rfl
    subst e2
    refine ⟨.ref T, upd H T (.tup [.int (n : Nat), x]), ?_, rfl, ⟨T, x, rfl, I.hok.fresh hT, rfl, fun ys hy => by rw [Kd.inj I hy hx]; exact ex⟩, ⟨st'.1, st'.2.1⟩, fun b hb => ?_⟩
    · refine I.turnedNew (t' := tk) (ch := [e, i]) keep hf hT ⟨by show 2 ≤ sizeLine; decide, [.int (0 + (n : Int)) t, x2], .cons ⟨t, by simp⟩ (.cons ru .nil), hI⟩
    · have hb' : b ≠ T := fun z => by
        obtain ⟨o, eo, _⟩ : ∃ o, s.heap.get? b = some o ∧ True := by
          rcases (show b = e ∨ b = i by simpa using hb) with z | z
          · subst z; exact ⟨_, he, trivial⟩
          · subst z; obtain ⟨o, eo, _⟩ := Kd.it_ob hi; exact ⟨o, eo, trivial⟩
        have := Heap.lt_size eo
        rw [z] at this
        exact absurd hT (Nat.not_le.mpr this)
      rw [upd_ne hb']
      exact (hf b hb).1
  done := by
    intro X hP hw hK hc n pins s σ H E I hf st hg
    subst hP hw hK
    obtain ⟨⟨old, he⟩, hi⟩ := st
    obtain ⟨xs, hx, en⟩ := hg
    obtain ⟨us, rv, hu⟩ := Kd.of I hx
    have hai : a ≠ i := Kd.apart I (hf i (by simp)) hi hu
    have hae : a ≠ e := fun z => Kd.other hu (by rw [z]; exact he) rfl (by decide) (by decide)
    have G := GoesN.enumFrom (elts := elts) (x1 := kk) (pos := tpos) 0 (p.draws (prog := X.prog) (w := X.w) (A := X.A.in1) (i := i) (a := a) (show X.A.in1.handled = none from I.ok.hd hc) hai us.toArray) e hei (by simp [hei, Ne.symm hae]) (by simp)
    have hn : n = us.toArray.size := by have := rv.length; simp; omega
    subst hn
    refine G.stops s (fun s1 => Inv X pins σ H s1) E ⟨⟨old, he⟩, hi, hu⟩ fun h' tk keep _ => ?_
    exact I.turnedL (t' := tk) (ch := [e, i]) keep hf
  self := fun A n s Q E st h => by
    obtain ⟨⟨old, he⟩, _⟩ := st
    exact wpAny_pyIter_enum he h
theorem turn_JZ (p q : Kd) (a b N : Addr) (la : a < N) (lb : b < N) : Turn P w K (.Tuple elts kk tpos) (JZ K p q a b) [N + 4, N + 2, N + 3, N, N + 1] (N + 4) (fun n h => IsZip h (N + 4) (N + 2) (N + 3) .none ∧ IsTupOf2 h (N + 2) (.ref (N)) (.ref (N + 1)) ∧ (∃ u0 u1, IsTupOf2 h (N + 3) u0 u1) ∧ p.it h (N) a n ∧ q.it h (N + 1) b n) where
  mem := by simp
  obj := fun n h st b' hb' => by
    obtain ⟨hz, hI, ⟨u0, u1, hO⟩, h0, h1⟩ := st
    rcases (show b' = N + 4 ∨ b' = N + 2 ∨ b' = N + 3 ∨ b' = N ∨ b' = N + 1 by simpa using hb') with e | e | e | e | e
    · rw [e]; exact ⟨_, hz, fun v q => nomatch q⟩
    · rw [e]; exact ⟨_, hI, fun v q => nomatch q⟩
    · rw [e]; exact ⟨_, hO, fun v q => nomatch q⟩
    · rw [e]; exact Kd.it_ob h0
    · rw [e]; exact Kd.it_ob h1
  keep := fun n h h' st k => by
    obtain ⟨hz, hI, ⟨u0, u1, hO⟩, h0, h1⟩ := st
    exact ⟨k _ (by simp) _ hz, k _ (by simp) _ hI, ⟨u0, u1, k _ (by simp) _ hO⟩, Kd.it_at h0 fun o q => k _ (by simp) o q, Kd.it_at h1 fun o q => k _ (by simp) o q⟩
  item := by
    intro X hP hw hK hc n pins s σ H E I hf st hg
    subst hP hw hK
    obtain ⟨hz, hI, hO, h0, h1⟩ := st
    obtain ⟨xs, ys, x, y, q0, q1, e0, e1⟩ := hg
    obtain ⟨us0, rv0, hu0⟩ := Kd.of I q0
    obtain ⟨us1, rv1, hu1⟩ := Kd.of I q1
    obtain ⟨w0, ew0, rw0⟩ := rv0.get e0
    obtain ⟨w1, ew1, rw1⟩ := rv1.get e1
    have D0 := p.draws (prog := X.prog) (w := X.w) (A := X.A.in1) (i := N) (a := a) (show X.A.in1.handled = none from I.ok.hd hc) (by have := la; intro e; rw [e] at this; exact absurd this (Nat.not_lt.mpr (by simp))) us0.toArray
    have D1 := q.draws (prog := X.prog) (w := X.w) (A := X.A.in1) (i := N + 1) (a := b) (show X.A.in1.handled = none from I.ok.hd hc) (by have := lb; intro e; rw [e] at this; exact absurd this (Nat.not_lt.mpr (by simp))) us1.toArray
    have G := GoesN.zip2 (elts := elts) (x1 := kk) (pos := tpos) (zip_sep2 (N := N) (fp1 := [a]) (fun d hd => by rw [List.mem_singleton.mp hd]; exact la) (fp2 := [b]) (fun d hd => by rw [List.mem_singleton.mp hd]; exact lb)) D0 D1
    have hlt : n < min us0.toArray.size us1.toArray.size := by
      have l0 := (List.getElem?_eq_some_iff.mp ew0).1
      have l1 := (List.getElem?_eq_some_iff.mp ew1).1
      simp; omega
    refine wpAny_mono (G.goes n s (fun v s2 => ∃ x' H', Inv X pins σ H' s2 ∧ RelV x' v ∧ (JZ X.K p q a b).yld n H x' H' ∧ (IsZip s2.heap (N + 4) (N + 2) (N + 3) .none ∧ IsTupOf2 s2.heap (N + 2) (.ref (N)) (.ref (N + 1)) ∧ (∃ u0 u1, IsTupOf2 s2.heap (N + 3) u0 u1) ∧ p.it s2.heap (N) a (n + 1) ∧ q.it s2.heap (N + 1) b (n + 1)) ∧ ∀ b ∈ [N + 4, N + 2, N + 3, N, N + 1], H' b = none) E hlt ⟨hz, hI, hO, ⟨h0, hu0⟩, ⟨h1, hu1⟩⟩ fun v h' tk y st' keep _ => ?_) (fun r s1 ⟨v, e1, q⟩ => ⟨v, e1, q⟩) fun _ _ z => z
    obtain ⟨T, x2, y2, ev, hT, k0, k1, hI2⟩ := y
    subst ev
    have v0 : x2 = w0 := by
      have : us0[n]? = some x2 := by simpa using k0
      rw [ew0] at this; cases this; rfl
    subst v0
    have v1 : y2 = w1 := by
      have : us1[n]? = some y2 := by simpa using k1
      rw [ew1] at this; cases this; rfl
    subst v1
    obtain ⟨z', I', O', g0, g1⟩ := st'
    refine ⟨.ref T, upd H T (.tup [x, y]), ?_, rfl, ⟨T, x, y, rfl, I.hok.fresh hT, rfl, fun l hl => by rw [Kd.inj I hl q0]; exact e0, fun l hl => by rw [Kd.inj I hl q1]; exact e1⟩, ⟨z', I', O', g0.1, g1.1⟩, fun b' hb' => ?_⟩
    · refine I.turnedNew (t' := tk) (ch := [N + 4, N + 3, N, N + 1]) keep (fun b' hb' => hf b' (by rcases (show b' = N + 4 ∨ b' = N + 3 ∨ b' = N ∨ b' = N + 1 by simpa using hb') with e | e | e | e <;> (rw [e]; simp))) hT ⟨by show 2 ≤ sizeLine; decide, [x2, y2], .cons rw0 (.cons rw1 .nil), hI2⟩
    · have ne : b' ≠ T := fun e => by
        have : ∃ o, s.heap.get? b' = some o := by
          rcases (show b' = N + 4 ∨ b' = N + 2 ∨ b' = N + 3 ∨ b' = N ∨ b' = N + 1 by simpa using hb') with e | e | e | e | e
          · rw [e]; exact ⟨_, hz⟩
          · rw [e]; exact ⟨_, hI⟩
          · obtain ⟨u0, u1, hO⟩ := hO; rw [e]; exact ⟨_, hO⟩
          · rw [e]; obtain ⟨o, eo, _⟩ := Kd.it_ob h0; exact ⟨o, eo⟩
          · rw [e]; obtain ⟨o, eo, _⟩ := Kd.it_ob h1; exact ⟨o, eo⟩
        obtain ⟨o, eo⟩ := this
        have := Heap.lt_size eo
        rw [e] at this
        exact absurd hT (Nat.not_le.mpr this)
      rw [upd_ne ne]
      exact (hf b' hb').1
  done := by
    intro X hP hw hK hc n pins s σ H E I hf st hg
    subst hP hw hK
    obtain ⟨hz, hI, hO, h0, h1⟩ := st
    obtain ⟨xs, ys, q0, q1, en⟩ := hg
    obtain ⟨us0, rv0, hu0⟩ := Kd.of I q0
    obtain ⟨us1, rv1, hu1⟩ := Kd.of I q1
    have D0 := p.draws (prog := X.prog) (w := X.w) (A := X.A.in1) (i := N) (a := a) (show X.A.in1.handled = none from I.ok.hd hc) (by have := la; intro e; rw [e] at this; exact absurd this (Nat.not_lt.mpr (by simp))) us0.toArray
    have D1 := q.draws (prog := X.prog) (w := X.w) (A := X.A.in1) (i := N + 1) (a := b) (show X.A.in1.handled = none from I.ok.hd hc) (by have := lb; intro e; rw [e] at this; exact absurd this (Nat.not_lt.mpr (by simp))) us1.toArray
    have G := GoesN.zip2 (elts := elts) (x1 := kk) (pos := tpos) (zip_sep2 (N := N) (fp1 := [a]) (fun d hd => by rw [List.mem_singleton.mp hd]; exact la) (fp2 := [b]) (fun d hd => by rw [List.mem_singleton.mp hd]; exact lb)) D0 D1
    have hn : n = min us0.toArray.size us1.toArray.size := by
      have l0 := rv0.length
      have l1 := rv1.length
      simp; omega
    subst hn
    refine G.stops s (fun s1 => Inv X pins σ H s1) E ⟨hz, hI, hO, ⟨h0, hu0⟩, ⟨h1, hu1⟩⟩ fun h' tk keep _ => ?_
    exact I.turnedL (t' := tk) (ch := [N + 4, N + 3, N, N + 1]) keep (fun b' hb' => hf b' (by rcases (show b' = N + 4 ∨ b' = N + 3 ∨ b' = N ∨ b' = N + 1 by simpa using hb') with e | e | e | e <;> (rw [e]; simp)))
  self := fun A n s Q E st h => wpAny_pyIter_zip st.1 h
theorem turn_JZ3 (p q r : Kd) (a b c N : Addr) (la : a < N) (lb : b < N) (lc : c < N) : Turn P w K (.Tuple elts kk tpos) (JZ3 K p q r a b c) [N + 5, N + 3, N + 4, N, N + 1, N + 2] (N + 5) (fun n h => IsZip h (N + 5) (N + 3) (N + 4) .none ∧ IsTupOf3 h (N + 3) (.ref (N)) (.ref (N + 1)) (.ref (N + 2)) ∧ (∃ u0 u1 u2, IsTupOf3 h (N + 4) u0 u1 u2) ∧ p.it h (N) a n ∧ q.it h (N + 1) b n ∧ r.it h (N + 2) c n) where
  mem := by simp
  obj := fun n h st b' hb' => by
    obtain ⟨hz, hI, ⟨u0, u1, u2, hO⟩, h0, h1, h2⟩ := st
    rcases (show b' = N + 5 ∨ b' = N + 3 ∨ b' = N + 4 ∨ b' = N ∨ b' = N + 1 ∨ b' = N + 2 by simpa using hb') with e | e | e | e | e | e
    · rw [e]; exact ⟨_, hz, fun v q => nomatch q⟩
    · rw [e]; exact ⟨_, hI, fun v q => nomatch q⟩
    · rw [e]; exact ⟨_, hO, fun v q => nomatch q⟩
    · rw [e]; exact Kd.it_ob h0
    · rw [e]; exact Kd.it_ob h1
    · rw [e]; exact Kd.it_ob h2
  keep := fun n h h' st k => by
    obtain ⟨hz, hI, ⟨u0, u1, u2, hO⟩, h0, h1, h2⟩ := st
    exact ⟨k _ (by simp) _ hz, k _ (by simp) _ hI, ⟨u0, u1, u2, k _ (by simp) _ hO⟩, Kd.it_at h0 fun o q => k _ (by simp) o q, Kd.it_at h1 fun o q => k _ (by simp) o q, Kd.it_at h2 fun o q => k _ (by simp) o q⟩
  item := by
    intro X hP hw hK hc n pins s σ H E I hf st hg
    subst hP hw hK
    obtain ⟨hz, hI, hO, h0, h1, h2⟩ := st
    obtain ⟨xs, ys, zs, x, y, z, q0, q1, q2, e0, e1, e2⟩ := hg
    obtain ⟨us0, rv0, hu0⟩ := Kd.of I q0
    obtain ⟨us1, rv1, hu1⟩ := Kd.of I q1
    obtain ⟨us2, rv2, hu2⟩ := Kd.of I q2
    obtain ⟨w0, ew0, rw0⟩ := rv0.get e0
    obtain ⟨w1, ew1, rw1⟩ := rv1.get e1
    obtain ⟨w2, ew2, rw2⟩ := rv2.get e2
    have D0 := p.draws (prog := X.prog) (w := X.w) (A := X.A.in1) (i := N) (a := a) (show X.A.in1.handled = none from I.ok.hd hc) (by have := la; intro e; rw [e] at this; exact absurd this (Nat.not_lt.mpr (by simp))) us0.toArray
    have D1 := q.draws (prog := X.prog) (w := X.w) (A := X.A.in1) (i := N + 1) (a := b) (show X.A.in1.handled = none from I.ok.hd hc) (by have := lb; intro e; rw [e] at this; exact absurd this (Nat.not_lt.mpr (by simp))) us1.toArray
    have D2 := r.draws (prog := X.prog) (w := X.w) (A := X.A.in1) (i := N + 2) (a := c) (show X.A.in1.handled = none from I.ok.hd hc) (by have := lc; intro e; rw [e] at this; exact absurd this (Nat.not_lt.mpr (by simp))) us2.toArray
    have G := GoesN.zip3 (elts := elts) (x1 := kk) (pos := tpos) (zip_sep3 (N := N) (fp1 := [a]) (fun d hd => by rw [List.mem_singleton.mp hd]; exact la) (fp2 := [b]) (fun d hd => by rw [List.mem_singleton.mp hd]; exact lb) (fp3 := [c]) (fun d hd => by rw [List.mem_singleton.mp hd]; exact lc)) D0 D1 D2
    have hlt : n < min (min us0.toArray.size us1.toArray.size) us2.toArray.size := by
      have l0 := (List.getElem?_eq_some_iff.mp ew0).1
      have l1 := (List.getElem?_eq_some_iff.mp ew1).1
      have l2 := (List.getElem?_eq_some_iff.mp ew2).1
      simp; omega
    refine wpAny_mono (G.goes n s (fun v s2 => ∃ x' H', Inv X pins σ H' s2 ∧ RelV x' v ∧ (JZ3 X.K p q r a b c).yld n H x' H' ∧ (IsZip s2.heap (N + 5) (N + 3) (N + 4) .none ∧ IsTupOf3 s2.heap (N + 3) (.ref (N)) (.ref (N + 1)) (.ref (N + 2)) ∧ (∃ u0 u1 u2, IsTupOf3 s2.heap (N + 4) u0 u1 u2) ∧ p.it s2.heap (N) a (n + 1) ∧ q.it s2.heap (N + 1) b (n + 1) ∧ r.it s2.heap (N + 2) c (n + 1)) ∧ ∀ b ∈ [N + 5, N + 3, N + 4, N, N + 1, N + 2], H' b = none) E hlt ⟨hz, hI, hO, ⟨h0, hu0⟩, ⟨h1, hu1⟩, ⟨h2, hu2⟩⟩ fun v h' tk y st' keep _ => ?_) (fun r s1 ⟨v, e1, q⟩ => ⟨v, e1, q⟩) fun _ _ z => z
    obtain ⟨T, x2, y2, z2, ev, hT, k0, k1, k2, hI2⟩ := y
    subst ev
    have v0 : x2 = w0 := by
      have : us0[n]? = some x2 := by simpa using k0
      rw [ew0] at this; cases this; rfl
    subst v0
    have v1 : y2 = w1 := by
      have : us1[n]? = some y2 := by simpa using k1
      rw [ew1] at this; cases this; rfl
    subst v1
    have v2 : z2 = w2 := by
      have : us2[n]? = some z2 := by simpa using k2
      rw [ew2] at this; cases this; rfl
    subst v2
    obtain ⟨z', I', O', g0, g1, g2⟩ := st'
    refine ⟨.ref T, upd H T (.tup [x, y, z]), ?_, rfl, ⟨T, x, y, z, rfl, I.hok.fresh hT, rfl, fun l hl => by rw [Kd.inj I hl q0]; exact e0, fun l hl => by rw [Kd.inj I hl q1]; exact e1, fun l hl => by rw [Kd.inj I hl q2]; exact e2⟩, ⟨z', I', O', g0.1, g1.1, g2.1⟩, fun b' hb' => ?_⟩
    · refine I.turnedNew (t' := tk) (ch := [N + 5, N + 4, N, N + 1, N + 2]) keep (fun b' hb' => hf b' (by rcases (show b' = N + 5 ∨ b' = N + 4 ∨ b' = N ∨ b' = N + 1 ∨ b' = N + 2 by simpa using hb') with e | e | e | e | e <;> (rw [e]; simp))) hT ⟨by show 3 ≤ sizeLine; decide, [x2, y2, z2], .cons rw0 (.cons rw1 (.cons rw2 .nil)), hI2⟩
    · have ne : b' ≠ T := fun e => by
        have : ∃ o, s.heap.get? b' = some o := by
          rcases (show b' = N + 5 ∨ b' = N + 3 ∨ b' = N + 4 ∨ b' = N ∨ b' = N + 1 ∨ b' = N + 2 by simpa using hb') with e | e | e | e | e | e
          · rw [e]; exact ⟨_, hz⟩
          · rw [e]; exact ⟨_, hI⟩
          · obtain ⟨u0, u1, u2, hO⟩ := hO; rw [e]; exact ⟨_, hO⟩
          · rw [e]; obtain ⟨o, eo, _⟩ := Kd.it_ob h0; exact ⟨o, eo⟩
          · rw [e]; obtain ⟨o, eo, _⟩ := Kd.it_ob h1; exact ⟨o, eo⟩
          · rw [e]; obtain ⟨o, eo, _⟩ := Kd.it_ob h2; exact ⟨o, eo⟩
        obtain ⟨o, eo⟩ := this
        have := Heap.lt_size eo
        rw [e] at this
        exact absurd hT (Nat.not_le.mpr this)
      rw [upd_ne ne]
      exact (hf b' hb').1
  done := by
    intro X hP hw hK hc n pins s σ H E I hf st hg
    subst hP hw hK
    obtain ⟨hz, hI, hO, h0, h1, h2⟩ := st
    obtain ⟨xs, ys, zs, q0, q1, q2, en⟩ := hg
    obtain ⟨us0, rv0, hu0⟩ := Kd.of I q0
    obtain ⟨us1, rv1, hu1⟩ := Kd.of I q1
    obtain ⟨us2, rv2, hu2⟩ := Kd.of I q2
    have D0 := p.draws (prog := X.prog) (w := X.w) (A := X.A.in1) (i := N) (a := a) (show X.A.in1.handled = none from I.ok.hd hc) (by have := la; intro e; rw [e] at this; exact absurd this (Nat.not_lt.mpr (by simp))) us0.toArray
    have D1 := q.draws (prog := X.prog) (w := X.w) (A := X.A.in1) (i := N + 1) (a := b) (show X.A.in1.handled = none from I.ok.hd hc) (by have := lb; intro e; rw [e] at this; exact absurd this (Nat.not_lt.mpr (by simp))) us1.toArray
    have D2 := r.draws (prog := X.prog) (w := X.w) (A := X.A.in1) (i := N + 2) (a := c) (show X.A.in1.handled = none from I.ok.hd hc) (by have := lc; intro e; rw [e] at this; exact absurd this (Nat.not_lt.mpr (by simp))) us2.toArray
    have G := GoesN.zip3 (elts := elts) (x1 := kk) (pos := tpos) (zip_sep3 (N := N) (fp1 := [a]) (fun d hd => by rw [List.mem_singleton.mp hd]; exact la) (fp2 := [b]) (fun d hd => by rw [List.mem_singleton.mp hd]; exact lb) (fp3 := [c]) (fun d hd => by rw [List.mem_singleton.mp hd]; exact lc)) D0 D1 D2
    have hn : n = min (min us0.toArray.size us1.toArray.size) us2.toArray.size := by
      have l0 := rv0.length
      have l1 := rv1.length
      have l2 := rv2.length
      simp; omega
    subst hn
    refine G.stops s (fun s1 => Inv X pins σ H s1) E ⟨hz, hI, hO, ⟨h0, hu0⟩, ⟨h1, hu1⟩, ⟨h2, hu2⟩⟩ fun h' tk keep _ => ?_
    exact I.turnedL (t' := tk) (ch := [N + 5, N + 4, N, N + 1, N + 2]) keep (fun b' hb' => hf b' (by rcases (show b' = N + 5 ∨ b' = N + 4 ∨ b' = N ∨ b' = N + 1 ∨ b' = N + 2 by simpa using hb') with e | e | e | e | e <;> (rw [e]; simp)))
  self := fun A n s Q E st h => wpAny_pyIter_zip st.1 h
end
end

section
variable [Wtp] [Tbl]

/-! ## the sources of a loop -/
def seqW (w : Wv) (st : Sto) : Option Sc := match w with
  | .d (.list xs) => some ⟨xs, []⟩
  | .d (.tuple xs) => some ⟨xs, []⟩
  | .r i => match st[i]? with
    | some (.lst xs) => some ⟨xs, [(i, xs)]⟩
    | _ => none
  | _ => none
@[simp] theorem seqW_list (xs : List PyData) (st : Sto) : seqW (.d (.list xs)) st = some ⟨xs, []⟩ := rfl
@[simp] theorem seqW_tuple (xs : List PyData) (st : Sto) : seqW (.d (.tuple xs)) st = some ⟨xs, []⟩ := rfl
def sgnD (c : Nat) : PyData := .str ⟨#[c]⟩
def cSeq (c : En → Sto → Rs Wv) : En → Sto → Rs Sc := fun env st => (c env st).bind fun w st1 => match w with
  | .d (.str x) => .ok ⟨x.cps.toList.map sgnD, []⟩ st1
  | .d (.dict es) => .ok ⟨es.map (·.1), []⟩ st1
  | w => match seqW w st1 with
    | some sc => .ok sc st1
    | none => .no
def pairD (x y : PyData) : PyData := .tuple [x, y]
def zip3 : List PyData → List PyData → List PyData → List PyData
  | x :: xs, y :: ys, z :: zs => .tuple [x, y, z] :: zip3 xs ys zs
  | _, _, _ => []
def cZip2 (cs : En → Sto → Rs (List Wv)) : En → Sto → Rs Sc := fun env st => (cs env st).bind fun ws st1 => match ws with
  | [u, v] => match seqW u st1, seqW v st1 with
    | some a, some b => .ok ⟨List.zipWith pairD a.xs b.xs, a.lv ++ b.lv⟩ st1
    | _, _ => .no
  | _ => .no
def cZip3 (cs : En → Sto → Rs (List Wv)) : En → Sto → Rs Sc := fun env st => (cs env st).bind fun ws st1 => match ws with
  | [u, v, w] => match seqW u st1, seqW v st1, seqW w st1 with
    | some a, some b, some c => .ok ⟨zip3 a.xs b.xs c.xs, (a.lv ++ b.lv) ++ c.lv⟩ st1
    | _, _, _ => .no
  | _ => .no
def enumD (xs : List PyData) : List PyData := xs.mapIdx fun i x => .tuple [.int (i : Nat), x]
def cEnum (cs : En → Sto → Rs (List Wv)) : En → Sto → Rs Sc := fun env st => (cs env st).bind fun ws st1 => match ws with
  | [u] => match seqW u st1 with
    | some a => .ok ⟨enumD a.xs, a.lv⟩ st1
    | _ => .no
  | _ => .no
def rangeD (lo : Int) (n : Nat) : List PyData := (List.range n).map fun i => .int (lo + (i : Nat))
def downD (lo : Int) (n : Nat) : List PyData := (List.range n).map fun i => .int (lo - (i : Nat))
def rgOk (i : Int) : Bool := decide (-(2 ^ 62) ≤ i) && decide (i < 2 ^ 62)
def cRg1 (cs : En → Sto → Rs (List Wv)) : En → Sto → Rs Sc := fun env st => (cs env st).bind fun ws st1 => match ws with
  | [.d (.int j)] => if rgOk j then .ok ⟨rangeD 0 j.toNat, []⟩ st1 else .no
  | _ => .no
def cRg2 (cs : En → Sto → Rs (List Wv)) : En → Sto → Rs Sc := fun env st => (cs env st).bind fun ws st1 => match ws with
  | [.d (.int i), .d (.int j)] => if rgOk i && rgOk j then .ok ⟨rangeD i (j - i).toNat, []⟩ st1 else .no
  | _ => .no
def cRgD (cs : En → Sto → Rs (List Wv)) : En → Sto → Rs Sc := fun env st => (cs env st).bind fun ws st1 => match ws with
  | [.d (.int i), .d (.int j), .d (.int (-1))] => if rgOk i && rgOk j then .ok ⟨downD i (i - j).toNat, []⟩ st1 else .no
  | _ => .no

/-- what stands at a stays -/
structure HoldsAt (K : Frg) (m : Mp) (n : Nat) (H : Hp) (sc : Sc) (q : Kd) (a : Addr) : Prop where
  at' : ∀ H2 m2 st2, Fol m n H m2 st2.length H2 → Sim K H2 m2 st2 → lvOk sc.lv st2 → ∃ us, q.sq K H2 a us ∧ RpA K H2 (Off m2 st2.length) us sc.xs
section
variable {K : Frg} {m : Mp} {H : Hp} {st : Sto} {n : Nat}
theorem seqW_at {v : V} {w : Wv} {sc : Sc} (S : Sim K H m st) (r : RW K H m st.length v w) (e : seqW w st = some sc) : ∃ a q, v = .ref a ∧ HoldsAt K m st.length H sc q a := by
  unfold seqW at e
  split at e
  · cases e
    cases r with
    | lst h1 h2 => exact ⟨_, .l, rfl, ⟨fun H2 m2 st2 f S2 _ => ⟨_, (f.kp.ls h1).sq, h2.mv f.kp⟩⟩⟩
  · cases e
    cases r with
    | tup h1 h2 => exact ⟨_, .t, rfl, ⟨fun H2 m2 st2 f S2 _ => ⟨_, f.kp.sqt h1.sq, h2.mv f.kp⟩⟩⟩
  · split at e
    · rename_i i _ xs e1
      cases e
      refine ⟨m.ix i, .l, r.2, ⟨fun H2 m2 st2 f S2 l => ?_⟩⟩
      rw [lvOk_one] at l
      obtain ⟨us, h1, h2⟩ := S2.ob i _ l
      rw [f.old i r.1] at h1
      exact ⟨us, .inl (.inl h1), h2⟩
    · cases e
  · cases e
theorem isit_l {sc : Sc} {a : Addr} (h : HoldsAt K m n H sc .l a) : IsIt K (Itl K a) m n H sc := by
  refine ⟨fun i H2 m2 st2 f S l hi => ?_, fun H2 m2 st2 f S l => ?_, fun i H2 m2 st2 v H3 f S l hi y => ?_⟩
  · obtain ⟨us, q, r⟩ := h.at' H2 m2 st2 f S l
    obtain ⟨v, hv, _⟩ := r.get (List.getElem?_eq_getElem hi)
    exact ⟨us, v, q, hv⟩
  · obtain ⟨us, q, r⟩ := h.at' H2 m2 st2 f S l
    exact ⟨us, q, Nat.le_of_eq r.len⟩
  · obtain ⟨us, q, r⟩ := h.at' H2 m2 st2 f S l
    obtain ⟨rfl, y⟩ := y
    obtain ⟨v', hv, rv⟩ := r.get (List.getElem?_eq_getElem hi)
    have := y us q
    rw [hv] at this
    cases this
    exact ⟨fun _ _ h => h, _, List.getElem?_eq_getElem hi, rv⟩
theorem isit_t {sc : Sc} {a : Addr} (h : HoldsAt K m n H sc .t a) : IsIt K (Itt K a) m n H sc := by
  refine ⟨fun i H2 m2 st2 f S l hi => ?_, fun H2 m2 st2 f S l => ?_, fun i H2 m2 st2 v H3 f S l hi y => ?_⟩
  · obtain ⟨us, q, r⟩ := h.at' H2 m2 st2 f S l
    obtain ⟨v, hv, _⟩ := r.get (List.getElem?_eq_getElem hi)
    exact ⟨us, v, q, hv⟩
  · obtain ⟨us, q, r⟩ := h.at' H2 m2 st2 f S l
    exact ⟨us, q, Nat.le_of_eq r.len⟩
  · obtain ⟨us, q, r⟩ := h.at' H2 m2 st2 f S l
    obtain ⟨rfl, y⟩ := y
    obtain ⟨v', hv, rv⟩ := r.get (List.getElem?_eq_getElem hi)
    have := y us q
    rw [hv] at this
    cases this
    exact ⟨fun _ _ h => h, _, List.getElem?_eq_getElem hi, rv⟩
theorem isit_s {x : Str} : IsIt K (Its x) m n H ⟨x.cps.toList.map sgnD, []⟩ := by
  refine ⟨fun i H2 m2 st2 f S l hi => by show i < x.cps.size; simpa using hi, fun H2 m2 st2 f S l => by show x.cps.size ≤ _; simp, fun i H2 m2 st2 v H3 f S l hi y => ?_⟩
  obtain ⟨rfl, c, hc, rfl⟩ := y
  exact ⟨fun _ _ h => h, sgnD c, by simp [hc], .str _⟩
/-! ### a dict's keys -/
theorem rp_key {Z : Addr → Prop} {c : PyData} {k : Key} (h : keyD c = some k) : Rp K H Z (kV k) c := by
  cases c <;> first | (cases h; first | exact .int _ | exact .str _) | cases h
theorem rp_keys {Z : Addr → Prop} : ∀ {ds : List PyData} {ks : List Key}, keysD ds = some ks → RpA K H Z (ks.map kV) ds
  | [], _, e => by cases e; exact .nil
  | d :: ds, _, e => by
    unfold keysD at e
    split at e
    · rename_i k0 ks e1 e2
      cases e
      exact .cons (rp_key e1) (rp_keys e2)
    · cases e
theorem RpK.at' {Z : Addr → Prop} : ∀ {kvs : List (Key × V)} {es : List (PyData × PyData)} {i : Nat} {k : Key} {v : V}, RpK K H Z kvs es → kvs[i]? = some (k, v) → ∃ c d, es[i]? = some (c, d) ∧ keyD c = some k ∧ Rp K H Z v d
  | _, _, _, _, _, .nil, e => by simp at e
  | _, _, 0, _, _, .cons h0 h1 _, e => by simp at e; obtain ⟨rfl, rfl⟩ := e; exact ⟨_, _, rfl, h0, h1⟩
  | _, _, i + 1, _, _, .cons _ _ h2, e => by simpa using RpK.at' h2 (i := i) (by simpa using e)
theorem RpT.at' {Z : Addr → Prop} : ∀ {kvs : List (List Key × V)} {es : List (PyData × PyData)} {i : Nat} {k : List Key} {v : V}, RpT K H Z kvs es → kvs[i]? = some (k, v) → ∃ c d, es[i]? = some (c, d) ∧ tkD c = some k ∧ Rp K H Z v d
  | _, _, _, _, _, .nil, e => by simp at e
  | _, _, 0, _, _, .cons h0 h1 _, e => by simp at e; obtain ⟨rfl, rfl⟩ := e; exact ⟨_, _, rfl, h0, h1⟩
  | _, _, i + 1, _, _, .cons _ _ h2, e => by simpa using RpT.at' h2 (i := i) (by simpa using e)
theorem isit_k {a : Addr} {o : Obj} {kvs : List (Key × V)} {es : List (PyData × PyData)} (ha : H a = some (.frz o (.dK kvs))) {Z : Addr → Prop} (h : RpK K H Z kvs es) : IsIt K (Itk a o kvs) m n H ⟨es.map (·.1), []⟩ := by
  have hl : kvs.length = es.length := h.len
  refine ⟨fun i H2 m2 st2 f S l hi => ⟨f.frz _ _ _ ha, by simpa [hl] using hi⟩, fun H2 m2 st2 f S l => ⟨f.frz _ _ _ ha, by simp [hl]⟩, fun i H2 m2 st2 v H3 f S l hi y => ?_⟩
  obtain ⟨rfl, k, v', e, rfl⟩ := y
  obtain ⟨c, d, e1, e2, _⟩ := h.at' e
  exact ⟨fun _ _ h => h, c, by simp [e1], rp_key e2⟩
theorem isit_kt {a : Addr} {o : Obj} {kvs : List (List Key × V)} {es : List (PyData × PyData)} (ha : H a = some (.frz o (.dT kvs))) {Z : Addr → Prop} (h : RpT K H Z kvs es) : IsIt K (Itkt a o kvs) m n H ⟨es.map (·.1), []⟩ := by
  have hl : kvs.length = es.length := h.len
  refine ⟨fun i H2 m2 st2 f S l hi => ⟨f.frz _ _ _ ha, by simpa [hl] using hi⟩, fun H2 m2 st2 f S l => ⟨f.frz _ _ _ ha, by simp [hl]⟩, fun i H2 m2 st2 v H3 f S l hi y => ?_⟩
  obtain ⟨rfl, k, v', q, e, rfl, hq⟩ := y
  obtain ⟨c, d, e1, e2, _⟩ := h.at' e
  refine ⟨fun _ _ h => h, c, by simp [e1], ?_⟩
  cases c with
  | tuple ds => exact .tup (.inl hq) (rp_keys e2)
  | _ => cases e2
theorem isit_r {lo : Int} {c : Nat} : IsIt K (Itr lo c) m n H ⟨rangeD lo c, []⟩ := by
  refine ⟨fun i H2 m2 st2 f S l hi => by show i < c; simpa [rangeD] using hi, fun H2 m2 st2 f S l => by show c ≤ _; simp [rangeD], fun i H2 m2 st2 v H3 f S l hi y => ?_⟩
  obtain ⟨rfl, rfl⟩ := y
  exact ⟨fun _ _ h => h, .int (lo + (i : Nat)), by
    have hi : i < c := by simpa [rangeD] using hi
    simp [rangeD, hi], .int _⟩
theorem isit_d {lo : Int} {c : Nat} : IsIt K (Itc lo (-1) c) m n H ⟨downD lo c, []⟩ := by
  refine ⟨fun i H2 m2 st2 f S l hi => by show i < c; simpa [downD] using hi, fun H2 m2 st2 f S l => by show c ≤ _; simp [downD], fun i H2 m2 st2 v H3 f S l hi y => ?_⟩
  obtain ⟨rfl, rfl⟩ := y
  refine ⟨fun _ _ h => h, .int (lo - (i : Nat)), by
    have hi : i < c := by simpa [downD] using hi
    simp [downD, hi], ?_⟩
  have e : lo + (i : Nat) * (-1 : Int) = lo - (i : Nat) := by omega
  rw [e]
  exact .int _
theorem isit_e {sc : Sc} {a : Addr} {q : Kd} (h : HoldsAt K m n H sc q a) : IsIt K (JE K q a) m n H ⟨enumD sc.xs, sc.lv⟩ := by
  have hl : (enumD sc.xs).length = sc.xs.length := by simp [enumD]
  refine ⟨fun i H2 m2 st2 f S l hi => ?_, fun H2 m2 st2 f S l => ?_, fun i H2 m2 st2 v H3 f S l hi y => ?_⟩
  · obtain ⟨us, q, r⟩ := h.at' H2 m2 st2 f S l
    obtain ⟨v, hv, _⟩ := r.get (List.getElem?_eq_getElem (show i < sc.xs.length from hl ▸ hi))
    exact ⟨us, v, q, hv⟩
  · obtain ⟨us, q, r⟩ := h.at' H2 m2 st2 f S l
    exact ⟨us, q, hl.trans r.len.symm⟩
  · obtain ⟨us, q, r⟩ := h.at' H2 m2 st2 f S l
    have hi : i < sc.xs.length := hl ▸ hi
    obtain ⟨T, x, rfl, hn, rfl, y⟩ := y
    obtain ⟨v', hv, rv⟩ := r.get (List.getElem?_eq_getElem hi)
    have := y us q
    rw [hv] at this
    cases this
    have g := grow_upd (o := .tup [V.int (i : Nat), x]) hn
    refine ⟨g, .tuple [.int (i : Nat), sc.xs[i]], by simp [enumD, hi], .tup (.inl upd_same) (.cons (.int _) (.cons (rv.mv (Fol.same (m := m2) (n := st2.length) g).kp) .nil))⟩
theorem isit_z {sc sd : Sc} {a b : Addr} {p q : Kd} (h : HoldsAt K m n H sc p a) (h' : HoldsAt K m n H sd q b) : IsIt K (JZ K p q a b) m n H ⟨List.zipWith pairD sc.xs sd.xs, sc.lv ++ sd.lv⟩ := by
  have hl : (List.zipWith pairD sc.xs sd.xs).length = min sc.xs.length sd.xs.length := List.length_zipWith
  refine ⟨fun i H2 m2 st2 f S l hi => ?_, fun H2 m2 st2 f S l => ?_, fun i H2 m2 st2 v H3 f S l hi y => ?_⟩
  · rw [show lvOk _ st2 = _ from lvOk_app _ _ _] at l
    obtain ⟨us, q, r⟩ := h.at' H2 m2 st2 f S l.1
    obtain ⟨us', q', r'⟩ := h'.at' H2 m2 st2 f S l.2
    have hi : i < min sc.xs.length sd.xs.length := hl ▸ hi
    obtain ⟨v, hv, _⟩ := r.get (List.getElem?_eq_getElem (show i < sc.xs.length by omega))
    obtain ⟨v', hv', _⟩ := r'.get (List.getElem?_eq_getElem (show i < sd.xs.length by omega))
    exact ⟨us, us', v, v', q, q', hv, hv'⟩
  · rw [show lvOk _ st2 = _ from lvOk_app _ _ _] at l
    obtain ⟨us, q, r⟩ := h.at' H2 m2 st2 f S l.1
    obtain ⟨us', q', r'⟩ := h'.at' H2 m2 st2 f S l.2
    exact ⟨us, us', q, q', by rw [r.len, r'.len]; exact hl⟩
  · rw [show lvOk _ st2 = _ from lvOk_app _ _ _] at l
    obtain ⟨us, q, r⟩ := h.at' H2 m2 st2 f S l.1
    obtain ⟨us', q', r'⟩ := h'.at' H2 m2 st2 f S l.2
    have hi : i < min sc.xs.length sd.xs.length := hl ▸ hi
    have i1 : i < sc.xs.length := by omega
    have i2 : i < sd.xs.length := by omega
    obtain ⟨T, x, x', rfl, hn, rfl, y, y'⟩ := y
    obtain ⟨v, hv, rv⟩ := r.get (List.getElem?_eq_getElem i1)
    obtain ⟨v', hv', rv'⟩ := r'.get (List.getElem?_eq_getElem i2)
    have e := y us q
    rw [hv] at e
    cases e
    have e := y' us' q'
    rw [hv'] at e
    cases e
    have g := grow_upd (o := .tup [x, x']) hn
    have kp := (Fol.same (m := m2) (n := st2.length) g).kp (K := K)
    exact ⟨g, pairD sc.xs[i] sd.xs[i], by simp [List.getElem?_zipWith, i1, i2], .tup (.inl upd_same) (.cons (rv.mv kp) (.cons (rv'.mv kp) .nil))⟩
theorem zip3_len : ∀ (xs ys zs : List PyData), (zip3 xs ys zs).length = min (min xs.length ys.length) zs.length
  | x :: xs, y :: ys, z :: zs => by simp only [zip3, List.length_cons, zip3_len xs ys zs]; omega
  | [], ys, zs => by simp [zip3]
  | x :: xs, [], zs => by simp [zip3]
  | x :: xs, y :: ys, [] => by simp [zip3]
theorem zip3_get : ∀ (xs ys zs : List PyData) (i : Nat) {x y z : PyData}, xs[i]? = some x → ys[i]? = some y → zs[i]? = some z → (zip3 xs ys zs)[i]? = some (.tuple [x, y, z])
  | x :: xs, y :: ys, z :: zs, 0, _, _, _, h1, h2, h3 => by simp at h1 h2 h3; subst h1 h2 h3; simp [zip3]
  | x :: xs, y :: ys, z :: zs, i + 1, _, _, _, h1, h2, h3 => by
    simp at h1 h2 h3
    simpa [zip3] using zip3_get xs ys zs i h1 h2 h3
  | [], ys, zs, i, _, _, _, h1, h2, h3 => by simp at h1
  | x :: xs, [], zs, i, _, _, _, h1, h2, h3 => by simp at h2
  | x :: xs, y :: ys, [], i, _, _, _, h1, h2, h3 => by simp at h3
theorem isit_z3 {sc sd se : Sc} {a b c : Addr} {p q r : Kd} (h : HoldsAt K m n H sc p a) (h' : HoldsAt K m n H sd q b) (h'' : HoldsAt K m n H se r c) : IsIt K (JZ3 K p q r a b c) m n H ⟨zip3 sc.xs sd.xs se.xs, (sc.lv ++ sd.lv) ++ se.lv⟩ := by
  have hl := zip3_len sc.xs sd.xs se.xs
  refine ⟨fun i H2 m2 st2 f S l hi => ?_, fun H2 m2 st2 f S l => ?_, fun i H2 m2 st2 v H3 f S l hi y => ?_⟩
  · rw [show lvOk _ st2 = _ from lvOk_app _ _ _, lvOk_app] at l
    obtain ⟨us, q, r⟩ := h.at' H2 m2 st2 f S l.1.1
    obtain ⟨us', q', r'⟩ := h'.at' H2 m2 st2 f S l.1.2
    obtain ⟨us'', q'', r''⟩ := h''.at' H2 m2 st2 f S l.2
    have hi : i < min (min sc.xs.length sd.xs.length) se.xs.length := hl ▸ hi
    obtain ⟨v, hv, _⟩ := r.get (List.getElem?_eq_getElem (show i < sc.xs.length by omega))
    obtain ⟨v', hv', _⟩ := r'.get (List.getElem?_eq_getElem (show i < sd.xs.length by omega))
    obtain ⟨v'', hv'', _⟩ := r''.get (List.getElem?_eq_getElem (show i < se.xs.length by omega))
    exact ⟨us, us', us'', v, v', v'', q, q', q'', hv, hv', hv''⟩
  · rw [show lvOk _ st2 = _ from lvOk_app _ _ _, lvOk_app] at l
    obtain ⟨us, q, r⟩ := h.at' H2 m2 st2 f S l.1.1
    obtain ⟨us', q', r'⟩ := h'.at' H2 m2 st2 f S l.1.2
    obtain ⟨us'', q'', r''⟩ := h''.at' H2 m2 st2 f S l.2
    exact ⟨us, us', us'', q, q', q'', by rw [r.len, r'.len, r''.len]; exact hl⟩
  · rw [show lvOk _ st2 = _ from lvOk_app _ _ _, lvOk_app] at l
    obtain ⟨us, q, r⟩ := h.at' H2 m2 st2 f S l.1.1
    obtain ⟨us', q', r'⟩ := h'.at' H2 m2 st2 f S l.1.2
    obtain ⟨us'', q'', r''⟩ := h''.at' H2 m2 st2 f S l.2
    have hi : i < min (min sc.xs.length sd.xs.length) se.xs.length := hl ▸ hi
    have i1 : i < sc.xs.length := by omega
    have i2 : i < sd.xs.length := by omega
    have i3 : i < se.xs.length := by omega
    obtain ⟨T, x, x', x'', rfl, hn, rfl, y, y', y''⟩ := y
    obtain ⟨v, hv, rv⟩ := r.get (List.getElem?_eq_getElem i1)
    obtain ⟨v', hv', rv'⟩ := r'.get (List.getElem?_eq_getElem i2)
    obtain ⟨v'', hv'', rv''⟩ := r''.get (List.getElem?_eq_getElem i3)
    have e := y us q
    rw [hv] at e
    cases e
    have e := y' us' q'
    rw [hv'] at e
    cases e
    have e := y'' us'' q''
    rw [hv''] at e
    cases e
    have g := grow_upd (o := .tup [x, x', x'']) hn
    have kp := (Fol.same (m := m2) (n := st2.length) g).kp (K := K)
    exact ⟨g, _, zip3_get _ _ _ i (List.getElem?_eq_getElem i1) (List.getElem?_eq_getElem i2) (List.getElem?_eq_getElem i3), .tup (.inl upd_same) (.cons (rv.mv kp) (.cons (rv'.mv kp) (.cons (rv''.mv kp) .nil)))⟩
end

/-! ### the rules -/
section
variable {M : Md} {X : Cx} {B : Tb} {k : Nat} {pins : List (Addr × Obj)} {σ : L2.St} {H : Hp} {s : Shared} {m : Mp} {env : En} {st : Sto} {W : WX} {pos p : Pos} {tg : Expr}
theorem PI.imp {e : Expr} {t t' : TI} (h : PI X tg e t) (q : ∀ σ H R, t' σ H R → t σ H R) : PI X tg e t' := ⟨fun pins s σ H R I x => h.run pins s σ H R I (q σ H R x)⟩
theorem di_seq {e : Expr} {ce : En → Sto → Rs Wv} (he : DE X e ce) : DI X tg e (cSeq ce) := by
  refine ⟨fun W tk => ⟨fun pins s σ H R I ⟨m, env, st, S, Re, hp⟩ => ?_⟩⟩
  unfold cSeq at hp
  rw [Rs.post_bind] at hp
  cases ec : ce env st with
  | no => rw [ec] at hp; exact hp.elim
  | ex x st1 =>
    rw [ec] at hp
    exact (pi_list (he.pe W tk)).run pins s σ H R I ⟨m, env, st, S, Re, by rw [ec]; exact hp⟩
  | ok w st1 =>
    rw [ec] at hp
    simp only [Rs.post_ok] at hp
    split at hp
    · rename_i x
      refine (pi_str (he.pe W tk)).run pins s σ H R I ⟨m, env, st, S, Re, ?_⟩
      rw [ec]
      intro v H1 m1 f1 S1 r1
      cases r1
      exact ⟨x, rfl, hp _ H1 m1 f1 S1 isit_s⟩
    · rename_i es
      refine (pi_keys (he.pe W tk)).run pins s σ H R I ⟨m, env, st, S, Re, ?_⟩
      rw [ec]
      intro v H1 m1 f1 S1 r1
      cases r1 with
      | dic h1 h2 => exact ⟨_, _, rfl, .inl ⟨_, h1, hp _ H1 m1 f1 S1 (isit_k h1 h2)⟩⟩
      | dit h1 h2 => exact ⟨_, _, rfl, .inr ⟨_, h1, hp _ H1 m1 f1 S1 (isit_kt h1 h2)⟩⟩
    · split at hp
      · rename_i sc esc
        have key : ∀ v H1 m1, Fol m st.length H m1 st1.length H1 → Sim X.K H1 m1 st1 → RW X.K H1 m1 st1.length v w → ∃ a q, v = .ref a ∧ HoldsAt X.K m1 st1.length H1 sc q a := fun v H1 m1 f1 S1 r1 => seqW_at S1 r1 esc
        by_cases hq : ∃ xs, w = .d (.tuple xs)
        · obtain ⟨xs, rfl⟩ := hq
          cases esc
          refine (pi_tup (he.pe W tk)).run pins s σ H R I ⟨m, env, st, S, Re, ?_⟩
          rw [ec]
          intro v H1 m1 f1 S1 r1
          cases r1 with
          | tup h1 h2 => exact ⟨_, rfl, ⟨_, h1.sq⟩, hp _ H1 m1 f1 S1 (isit_t ⟨fun H2 m2 st2 f S2 _ => ⟨_, f.kp.sqt h1.sq, h2.mv f.kp⟩⟩)⟩
        · refine (pi_list (he.pe W tk)).run pins s σ H R I ⟨m, env, st, S, Re, ?_⟩
          rw [ec]
          intro v H1 m1 f1 S1 r1
          unfold seqW at esc
          split at esc
          · cases esc
            cases r1 with
            | lst h1 h2 => exact ⟨_, rfl, ⟨_, h1.sq⟩, hp _ H1 m1 f1 S1 (isit_l ⟨fun H2 m2 st2 f S2 _ => ⟨_, (f.kp.ls h1).sq, h2.mv f.kp⟩⟩)⟩
          · exact absurd ⟨_, rfl⟩ hq
          · split at esc
            · rename_i i _ _ _ xs e1
              cases esc
              obtain ⟨us, h1, h2⟩ := S1.ob i _ e1
              refine ⟨m1.ix i, r1.2, ⟨us, .inl (.inl h1)⟩, hp _ H1 m1 f1 S1 (isit_l ⟨fun H2 m2 st2 f S2 l => ?_⟩)⟩
              rw [lvOk_one] at l
              obtain ⟨us2, g1, g2⟩ := S2.ob i _ l
              rw [f.old i r1.1] at g1
              exact ⟨us2, .inl (.inl g1), g2⟩
            · cases esc
          · cases esc
      · exact hp.elim
theorem rws1 {K : Frg} {n : Nat} {vs : List V} {w : Wv} (h : RWs K H m n vs [w]) : ∃ v, vs = [v] ∧ RW K H m n v w := by
  cases h with | cons h1 h2 => cases h2; exact ⟨_, rfl, h1⟩
theorem rws2 {K : Frg} {n : Nat} {vs : List V} {w w' : Wv} (h : RWs K H m n vs [w, w']) : ∃ v v', vs = [v, v'] ∧ RW K H m n v w ∧ RW K H m n v' w' := by
  cases h with | cons h1 h2 => obtain ⟨v', rfl, h3⟩ := rws1 h2; exact ⟨_, v', rfl, h1, h3⟩
theorem rws3 {K : Frg} {n : Nat} {vs : List V} {w w' w'' : Wv} (h : RWs K H m n vs [w, w', w'']) : ∃ v v' v'', vs = [v, v', v''] ∧ RW K H m n v w ∧ RW K H m n v' w' ∧ RW K H m n v'' w'' := by
  cases h with | cons h1 h2 => obtain ⟨v', v'', rfl, h3, h4⟩ := rws2 h2; exact ⟨_, v', v'', rfl, h1, h3, h4⟩
theorem rgOk_iff {i : Int} (h : rgOk i = true) : -(2 ^ 62) ≤ i ∧ i < 2 ^ 62 := by
  unfold rgOk at h
  simpa using h
theorem di_range1 (c : Cxt M X B k) {a : Expr} {cs : En → Sto → Rs (List Wv)} (j : Nat) (hg : B.gs[j]? = some ("range" : Str)) (hm : M.mg "range" = none) (ha : DA X [a] cs) (hs : starEach [a] X.env = [(false, eval a X.env)] := by rfl) : DI X tg (.Call (.Name "range" p) [a] [] pos) (cRg1 cs) := by
  refine ⟨fun W tk => PI.imp (pi_range1 (c.gl j _ hg) (by rw [c.mg]; exact hm) (ha.pa W tk) hs) fun σ H R ⟨m, env, st, S, Re, hp⟩ => ?_⟩
  unfold cRg1 at hp
  rw [Rs.post_bind] at hp
  refine ⟨m, env, st, S, Re, Rs.post_mono hp (fun ws st1 q vs H1 m1 f1 S1 r1 => ?_) fun _ _ q => q⟩
  split at q
  · rename_i i
    split at q
    · rename_i hi
      obtain ⟨h1, h2⟩ := rgOk_iff hi
      obtain ⟨v, rfl, r⟩ := rws1 r1
      cases r
      exact ⟨i, rfl, h1, h2, q _ H1 m1 f1 S1 isit_r⟩
    · exact q.elim
  · exact q.elim
theorem di_range2 (c : Cxt M X B k) {a b : Expr} {cs : En → Sto → Rs (List Wv)} (j : Nat) (hg : B.gs[j]? = some ("range" : Str)) (hm : M.mg "range" = none) (ha : DA X [a, b] cs)
    (hs : starEach [a, b] X.env = [(false, eval a X.env), (false, eval b X.env)] := by rfl) (hs2 : starEach [b] X.env = [(false, eval b X.env)] := by rfl) : DI X tg (.Call (.Name "range" p) [a, b] [] pos) (cRg2 cs) := by
  refine ⟨fun W tk => PI.imp (pi_range2 (c.gl j _ hg) (by rw [c.mg]; exact hm) (ha.pa W tk) hs hs2) fun σ H R ⟨m, env, st, S, Re, hp⟩ => ?_⟩
  unfold cRg2 at hp
  rw [Rs.post_bind] at hp
  refine ⟨m, env, st, S, Re, Rs.post_mono hp (fun ws st1 q vs H1 m1 f1 S1 r1 => ?_) fun _ _ q => q⟩
  split at q
  · rename_i i j
    split at q
    · rename_i hi
      rw [Bool.and_eq_true] at hi
      obtain ⟨h1, h2⟩ := rgOk_iff hi.1
      obtain ⟨h3, h4⟩ := rgOk_iff hi.2
      obtain ⟨v, v', rfl, r, r'⟩ := rws2 r1
      cases r
      cases r'
      exact ⟨i, j, rfl, ⟨h1, h2, h3, h4⟩, q _ H1 m1 f1 S1 isit_r⟩
    · exact q.elim
  · exact q.elim
theorem di_rangeD (c : Cxt M X B k) {a b d : Expr} {cs : En → Sto → Rs (List Wv)} (j : Nat) (hg : B.gs[j]? = some ("range" : Str)) (hm : M.mg "range" = none) (ha : DA X [a, b, d] cs)
    (hs : starEach [a, b, d] X.env = (false, eval a X.env) :: starEach [b, d] X.env := by rfl) (hpl : (backTo pos (starEach [b, d] X.env)).any (·.1) = false := by rfl) : DI X tg (.Call (.Name "range" p) [a, b, d] [] pos) (cRgD cs) := by
  refine ⟨fun W tk => PI.imp (pi_range3 (c.gl j _ hg) (by rw [c.mg]; exact hm) (ha.pa W tk) hs hpl) fun σ H R ⟨m, env, st, S, Re, hp⟩ => ?_⟩
  unfold cRgD at hp
  rw [Rs.post_bind] at hp
  refine ⟨m, env, st, S, Re, Rs.post_mono hp (fun ws st1 q vs H1 m1 f1 S1 r1 => ?_) fun _ _ q => q⟩
  split at q
  · rename_i i j
    split at q
    · rename_i hi
      rw [Bool.and_eq_true] at hi
      obtain ⟨h1, h2⟩ := rgOk_iff hi.1
      obtain ⟨h3, h4⟩ := rgOk_iff hi.2
      obtain ⟨v, v', v'', rfl, r, r', r''⟩ := rws3 r1
      cases r
      cases r'
      cases r''
      exact ⟨i, j, -1, _, rfl, RgC.neg h1 h2 h3 h4, q _ H1 m1 f1 S1 isit_d⟩
    · exact q.elim
  · exact q.elim
end
end

section
variable [Wtp] [Tbl]

theorem args_init2 (obj a : Value) : argsOk "object.__init__" ⟨[obj, a], []⟩ := F.args_object_init_2 obj a
/-- enumerate(v) over whatever iter(v) makes -/
theorem enum_made {v : Value} {o : Obj} {Hh : Heap → Prop} (Bg : Begins v o Hh) :
    Meets (Builtin.«enumerate.__new__» ⟨[.type "enumerate", v], []⟩) (fun _ Rr sh => Hh sh.heap ∧
      Rr (.ok (.ret (.ref (sh.heap.push o).objs.size))) { sh with heap := (sh.heap.push o).push { cls := .type "enumerate", data := .fields #[.none, .bool false, .ref sh.heap.objs.size, rawInt 0, .none, .none] } }) :=
  .of_wp fun prog w A Rr sh hyp => by
    obtain ⟨hp, g, d, tk, os⟩ := sh
    obtain ⟨h1, hyp⟩ := hyp
    have sb := sub_enumerate
    have qi : ∀ {A' : Around} {E' : Value → Shared → Prop} {Q' : Value → Shared → Prop}, Q' (.ref hp.objs.size) ⟨hp.push o, g, d, tk, os⟩ → wpAny (model prog w) A' (pyIter v) Q' E' ⟨hp, g, d, tk, os⟩ :=
      fun z => Bg.iter prog w _ _ ⟨hp, g, d, tk, os⟩ _ h1 z
    wp_walk using qi
    refine wpAny_stack_any fun st => wpAny_pure ?_
    split
    · rename_i c5 _ _ _ _ _
      cases (c5 == Value.type "enumerate") <;> (wp_walk using qi; exact ⟨_, rfl, hyp⟩)
    · wp_walk using qi
      exact ⟨_, rfl, hyp⟩
section
variable {prog : Program} {w : World} {A : Around} {E : Value → Shared → Prop} {s : Shared}
theorem enum_one {v : Value} {o : Obj} {Hh : Heap → Prop} {Q : Value → Shared → Prop} (Bg : Begins v o Hh) (h1 : Hh s.heap)
    (h : ∀ h', IsEnum h' (s.heap.objs.size + 1) s.heap.objs.size 0 .none → h'.get? s.heap.objs.size = some o → (∀ b ob, s.heap.get? b = some ob → h'.get? b = some ob) → Q (.ref (s.heap.objs.size + 1)) { s with heap := h' }) :
    wpAny (model prog w) A (call (.type "enumerate") [v]) Q E s := by
  refine callType_new F.called_enumerate (by decide) (F.typeCall_enumerate_1 _) (F.newCall_enumerate_1 _) (fun obj => args_init2 obj _) F.entry_enumerate_new (enum_made Bg) ⟨h1, ?_⟩
  have sz : (s.heap.push o).objs.size = s.heap.objs.size + 1 := Heap.size_push ..
  have he := Heap.get?_push_size (s.heap.push o) (o := { cls := .type "enumerate", data := .fields #[.none, .bool false, .ref s.heap.objs.size, rawInt 0, .none, .none] }) rfl
  rw [sz] at he
  show _ ∧ _
  rw [sz]
  exact ⟨⟨_, he, rfl⟩, h _ he (Heap.get?_push_of_some _ (Heap.get?_push_size _ Bg.free)) fun b ob x => Heap.get?_push_of_some _ (Heap.get?_push_of_some _ x)⟩
end
section
variable {M : Md} {X : Cx} {B : Tb} {k : Nat} {pins : List (Addr × Obj)} {σ : L2.St} {H : Hp} {s : Shared} {m : Mp} {env : En} {st : Sto} {W : WX} {pos p tpos : Pos} {elts : List Expr} {kk : Nat}
theorem HoldsAt.now {sc : Sc} {q : Kd} {a : Addr} (h : HoldsAt X.K m st.length H sc q a) (S : Sim X.K H m st) (l : lvOk sc.lv st) : ∃ us, q.sq X.K H a us := by
  obtain ⟨us, h1, _⟩ := h.at' H m st .refl S l
  exact ⟨us, h1⟩
theorem seqW_lv {w : Wv} {sc : Sc} (e : seqW w st = some sc) : lvOk sc.lv st := by
  unfold seqW at e
  split at e
  · cases e; simp
  · cases e; simp
  · split at e
    · cases e; rw [lvOk_one]; assumption
    · cases e
  · cases e
theorem here_lt {q : Kd} {a : Addr} {us : Array Value} (h : q.here s.heap a us) : a < s.heap.objs.size := by
  cases q <;> (obtain ⟨o, e, _⟩ := h; exact Heap.lt_size e)
theorem di_enum (c : Cxt M X B k) {e : Expr} {cs : En → Sto → Rs (List Wv)} (j : Nat) (hg : B.gs[j]? = some ("enumerate" : Str)) (hm : M.mg "enumerate" = none) (ha : DA X [e] cs) (hs : starEach [e] X.env = [(false, eval e X.env)] := by rfl) :
    DI X (.Tuple elts kk tpos) (.Call (.Name "enumerate" p) [e] [] pos) (cEnum cs) := by
  refine ⟨fun W tk => ⟨fun pins s σ H R I ⟨m, env, st, S, Re, hp⟩ => ?_⟩⟩
  unfold cEnum at hp
  rw [Rs.post_bind] at hp
  refine Call_ (ld_blt I (c.gl j _ hg) (by rw [c.mg]; exact hm) boot_enumerate (PyProof.Rows.callWith_type1 (ha.go tk I S Re pos (Rs.post_mono hp (fun ws st1 q vs H1 m1 us s1 I1 rv f1 S1 r1 => ?_) fun _ _ q => q)) hs rfl))
  split at q
  · split at q
    · rename_i w sc esc
      obtain ⟨v, rfl, r⟩ := rws1 r1
      obtain ⟨a, kd, rfl, h⟩ := seqW_at S1 r esc
      cases rv with
      | cons rv rn =>
        cases rn
        cases rv
        obtain ⟨xs, hx⟩ := h.now S1 (seqW_lv esc)
        obtain ⟨us, _, hu⟩ := Kd.of I1 hx
        refine enum_one (kd.begins a us.toArray) hu fun h' he hi hk => wpAny_pyIter_enum he ?_
        have I2 : Inv X pins σ H1 { s1 with heap := h' } := I1.kept (t' := s1.toks) hk
        refine ⟨s1.heap.objs.size + 1, [s1.heap.objs.size + 1, s1.heap.objs.size], _, _, H1, rfl, I2, turn_JE kd a _ _ (Nat.succ_ne_self _), ⟨⟨.none, he⟩, Kd.first hi⟩, fun b hb => ?_, q _ H1 m1 f1 S1 (isit_e h)⟩
        have le : s1.heap.objs.size ≤ b := by
          rcases (show b = s1.heap.objs.size + 1 ∨ b = s1.heap.objs.size by simpa using hb) with z | z
          · rw [z]; exact Nat.le_succ _
          · rw [z]; exact Nat.le_refl _
        exact I1.fpOk le (I1.hok.fresh le)
    · exact q.elim
  · exact q.elim
theorem di_zip2 (c : Cxt M X B k) {e e2 : Expr} {cs : En → Sto → Rs (List Wv)} (j : Nat) (hg : B.gs[j]? = some ("zip" : Str)) (hm : M.mg "zip" = none) (ha : DA X [e, e2] cs)
    (hs : starEach [e, e2] X.env = (false, eval e X.env) :: starEach [e2] X.env := by rfl) (hpl : (backTo pos (starEach [e2] X.env)).any (·.1) = false := by rfl) :
    DI X (.Tuple elts kk tpos) (.Call (.Name "zip" p) [e, e2] [] pos) (cZip2 cs) := by
  refine ⟨fun W tk => ⟨fun pins s σ H R I ⟨m, env, st, S, Re, hp⟩ => ?_⟩⟩
  unfold cZip2 at hp
  rw [Rs.post_bind] at hp
  refine Call_ (ld_blt I (c.gl j _ hg) (by rw [c.mg]; exact hm) PyProof.Rows.boot_zip (PyProof.Rows.callWith_type1 (ha.go tk I S Re pos (Rs.post_mono hp (fun ws st1 q vs H1 m1 us s1 I1 rv f1 S1 r1 => ?_) fun _ _ q => q)) hs hpl))
  split at q
  · split at q
    · rename_i sc sd esc esd
      obtain ⟨v, v', rfl, r, r'⟩ := rws2 r1
      obtain ⟨a, kd, rfl, h⟩ := seqW_at S1 r esc
      obtain ⟨b, kd', rfl, h'⟩ := seqW_at S1 r' esd
      cases rv with
      | cons rv rn =>
        cases rn with
        | cons rv' rn =>
          cases rn
          cases rv
          cases rv'
          obtain ⟨xs, hx⟩ := h.now S1 (seqW_lv esc)
          obtain ⟨us, _, hu⟩ := Kd.of I1 hx
          obtain ⟨xs', hx'⟩ := h'.now S1 (seqW_lv esd)
          obtain ⟨us', _, hu'⟩ := Kd.of I1 hx'
          refine zip_begins2 (kd.begins a us.toArray) (kd'.begins b us'.toArray) hu hu' fun h'' hz hT hO i1 i2 _ hk => wpAny_pyIter_zip hz ?_
          have I2 : Inv X pins σ H1 { s1 with heap := h'' } := I1.kept (t' := s1.toks) hk
          refine ⟨s1.heap.objs.size + 4, [s1.heap.objs.size + 4, s1.heap.objs.size + 2, s1.heap.objs.size + 3, s1.heap.objs.size, s1.heap.objs.size + 1], _, _, H1, rfl, I2, turn_JZ kd kd' a b _ (here_lt hu) (here_lt hu'), ⟨hz, hT, ⟨_, _, hO⟩, Kd.first i1, Kd.first i2⟩, fun d hd => ?_, q _ H1 m1 f1 S1 (isit_z h h')⟩
          have le : s1.heap.objs.size ≤ d := by
            rcases (show d = s1.heap.objs.size + 4 ∨ d = s1.heap.objs.size + 2 ∨ d = s1.heap.objs.size + 3 ∨ d = s1.heap.objs.size ∨ d = s1.heap.objs.size + 1 by simpa using hd) with z | z | z | z | z <;> (rw [z]; first | exact Nat.le_add_right _ _ | exact Nat.le_refl _)
          exact I1.fpOk le (I1.hok.fresh le)
    · exact q.elim
  · exact q.elim
theorem di_zip3 (c : Cxt M X B k) {e e2 e3 : Expr} {cs : En → Sto → Rs (List Wv)} (j : Nat) (hg : B.gs[j]? = some ("zip" : Str)) (hm : M.mg "zip" = none) (ha : DA X [e, e2, e3] cs)
    (hs : starEach [e, e2, e3] X.env = (false, eval e X.env) :: starEach [e2, e3] X.env := by rfl) (hpl : (backTo pos (starEach [e2, e3] X.env)).any (·.1) = false := by rfl) :
    DI X (.Tuple elts kk tpos) (.Call (.Name "zip" p) [e, e2, e3] [] pos) (cZip3 cs) := by
  refine ⟨fun W tk => ⟨fun pins s σ H R I ⟨m, env, st, S, Re, hp⟩ => ?_⟩⟩
  unfold cZip3 at hp
  rw [Rs.post_bind] at hp
  refine Call_ (ld_blt I (c.gl j _ hg) (by rw [c.mg]; exact hm) PyProof.Rows.boot_zip (PyProof.Rows.callWith_type1 (ha.go tk I S Re pos (Rs.post_mono hp (fun ws st1 q vs H1 m1 us s1 I1 rv f1 S1 r1 => ?_) fun _ _ q => q)) hs hpl))
  split at q
  · split at q
    · rename_i sc sd se esc esd ese
      obtain ⟨v, v', v'', rfl, r, r', r''⟩ := rws3 r1
      obtain ⟨a, kd, rfl, h⟩ := seqW_at S1 r esc
      obtain ⟨b, kd', rfl, h'⟩ := seqW_at S1 r' esd
      obtain ⟨d, kd'', rfl, h''⟩ := seqW_at S1 r'' ese
      cases rv with
      | cons rv rn =>
        cases rn with
        | cons rv' rn =>
          cases rn with
          | cons rv'' rn =>
            cases rn
            cases rv
            cases rv'
            cases rv''
            obtain ⟨xs, hx⟩ := h.now S1 (seqW_lv esc)
            obtain ⟨us, _, hu⟩ := Kd.of I1 hx
            obtain ⟨xs', hx'⟩ := h'.now S1 (seqW_lv esd)
            obtain ⟨us', _, hu'⟩ := Kd.of I1 hx'
            obtain ⟨xs'', hx''⟩ := h''.now S1 (seqW_lv ese)
            obtain ⟨us'', _, hu''⟩ := Kd.of I1 hx''
            refine zip_begins3 (kd.begins a us.toArray) (kd'.begins b us'.toArray) (kd''.begins d us''.toArray) hu hu' hu'' fun h3 hz hT hO i1 i2 i3 _ hk => wpAny_pyIter_zip hz ?_
            have I2 : Inv X pins σ H1 { s1 with heap := h3 } := I1.kept (t' := s1.toks) hk
            refine ⟨s1.heap.objs.size + 5, [s1.heap.objs.size + 5, s1.heap.objs.size + 3, s1.heap.objs.size + 4, s1.heap.objs.size, s1.heap.objs.size + 1, s1.heap.objs.size + 2], _, _, H1, rfl, I2, turn_JZ3 kd kd' kd'' a b d _ (here_lt hu) (here_lt hu') (here_lt hu''), ⟨hz, hT, ⟨_, _, _, hO⟩, Kd.first i1, Kd.first i2, Kd.first i3⟩, fun e hd => ?_, q _ H1 m1 f1 S1 (isit_z3 h h' h'')⟩
            have le : s1.heap.objs.size ≤ e := by
              rcases (show e = s1.heap.objs.size + 5 ∨ e = s1.heap.objs.size + 3 ∨ e = s1.heap.objs.size + 4 ∨ e = s1.heap.objs.size ∨ e = s1.heap.objs.size + 1 ∨ e = s1.heap.objs.size + 2 by simpa using hd) with z | z | z | z | z | z <;> (rw [z]; first | exact Nat.le_add_right _ _ | exact Nat.le_refl _)
            exact I1.fpOk le (I1.hok.fresh le)
    · exact q.elim
  · exact q.elim

/-! ## comprehensions -/
/-- the parts of a comprehension, its names at vs -/
structure LcOk (X : Cx) (elt tg iter : Expr) (ifs : List Expr) (scope : Scope) (own : List (Str × Nat)) (ci : En → Sto → Rs Sc) (g : Wv → En → Option En) (t : En → Sto → Rs Bool) (c : En → Sto → Rs Wv) : Prop where
  hi : DI X tg iter ci
  ok : BlkOk X.N X.env.scope scope own
  S0 : ∃ S0 : List Nat, (∀ i ∈ S0, i ∈ own.map (·.2)) ∧ ∀ (s : Shared) (H : Hp) (C : Addr) (cl : List (Str × Addr)) (fp : List Addr), DG (X.blk s H scope (compEnvC scope cl C X.env) fp) S0 tg g
  ht : ∀ (s : Shared) (H : Hp) (C : Addr) (cl : List (Str × Addr)) (fp : List Addr), DTs (X.blk s H scope (compEnvC scope cl C X.env) fp) ifs t
  he : ∀ (s : Shared) (H : Hp) (C : Addr) (cl : List (Str × Addr)) (fp : List Addr), DE (X.blk s H scope (compEnvC scope cl C X.env) fp) elt c
  hs : ∀ x, foldedSetIterable iter X.env x = pure x
theorem lc_ok (cx : Cxt M X B k) {elt tg iter : Expr} {ifs : List Expr} {scope : Scope} {ci : En → Sto → Rs Sc} {g : Wv → En → Option En} {t : En → Sto → Rs Bool} {c : En → Sto → Rs Wv} (own : List (Str × Nat)) (us ls : List Nat) (gs cs : List Str)
    (hb : blkT B us ls gs cs scope own = true) (hi : DI X tg iter ci) (hS : (ls.all fun i => (own.map (·.2)).contains i) = true)
    (hg : ∀ X' : Cx, Cxt M X' (B.blk us ls gs cs) k → DG X' ls tg g) (ht : ∀ X' : Cx, Cxt M X' (B.blk us ls gs cs) k → DTs X' ifs t)
    (he : ∀ X' : Cx, Cxt M X' (B.blk us ls gs cs) k → DE X' elt c) (hs : ∀ x, foldedSetIterable iter X.env x = pure x := by intro _; rfl) : LcOk X elt tg iter ifs scope own ci g t c :=
  ⟨hi, cx.blkOk hb, ⟨ls, fun i h => by simpa using (List.all_eq_true.mp hS) i h, fun s H C cl fp => hg _ (cx.blk hb s H C cl fp)⟩, fun s H C cl fp => ht _ (cx.blk hb s H C cl fp), fun s H C cl fp => he _ (cx.blk hb s H C cl fp), hs⟩

section
variable {elt tg iter : Expr} {ifs : List Expr} {scope : Scope} {own : List (Str × Nat)} {ci : En → Sto → Rs Sc} {g : Wv → En → Option En} {t : En → Sto → Rs Bool} {c : En → Sto → Rs Wv} {vs : List Nat}
theorem lcOk_tg {S0 : List Nat} (h : ∀ (s : Shared) (H : Hp) (C : Addr) (cl : List (Str × Addr)) (fp : List Addr), DG (X.blk s H scope (compEnvC scope cl C X.env) fp) S0 tg g) :
    ∀ (s : Shared) (H : Hp) (C : Addr) (cl : List (Str × Addr)) (fp : List Addr), PG (X.blk s H scope (compEnvC scope cl C X.env) fp) tg (fun v σ H Q => ∃ m n env w env', RW X.K H m n v w ∧ EnvR X.K H m n env σ ∧ g w env = some env' ∧ ∀ σ', EnvR X.K H m n env' σ' → But S0 σ σ' → Q σ' H) :=
  fun s H C cl fp => (h s H C cl fp).pg
theorem lc_data {Q : VK} {σ : L2.St} {S0 : List Nat} {tgt : TG} (hS : ∀ i ∈ S0, i ∈ vs)
    (htg : ∀ v σ H Q, (∃ m n env w env', RW X.K H m n v w ∧ EnvR X.K H m n env σ ∧ g w env = some env' ∧ ∀ σ', EnvR X.K H m n env' σ' → But S0 σ σ' → Q σ' H) → tgt v σ H Q) (h : tE X W (eLc ci g t c vs) σ H Q) : tLc (tI X W ci) tgt (tT X Wno t) (tE X Wno c) vs σ H Q := by
  obtain ⟨m, env, st, S, R, hp⟩ := h
  unfold eLc at hp
  rw [Rs.post_bind] at hp
  refine lc_tLc hS htg S R (Rs.post_mono hp (fun ys st1 q D H1 m1 xs hD f1 S1 F1 hx r1 => ?_) fun _ _ q => q)
  have kp : Kp X.K H1 (Off m1 st1.length) H1 (Off (m1.done D) st1.length) := ⟨fun _ _ h => h, fun _ _ _ h => h, fun a o _ h z => ⟨h, off_done a z⟩⟩
  exact q _ H1 (m1.done D) f1 (S1.sub rfl fun a z => z.1) (.lst (.inl ⟨hx, fun i hi e => S1.fi i hi (by rw [show m1.ix i = D from e]; exact F1), fun z => z.2 rfl⟩) (r1.mv kp))
theorem Fol.undn {n n2 : Nat} {m2 : Mp} {H2 : Hp} {D : Addr} (f : Fol m n H (m2.done D) n2 H2) (hn : ¬ Nn H D) : Fol m n H (mup (m2.done D) n2 D) (n2 + 1) H2 := (f.undone hn).doneN hn
theorem lc_store {Q : VK} {σ : L2.St} {S0 : List Nat} {tgt : TG} (hS : ∀ i ∈ S0, i ∈ vs)
    (htg : ∀ v σ H Q, (∃ m n env w env', RW X.K H m n v w ∧ EnvR X.K H m n env σ ∧ g w env = some env' ∧ ∀ σ', EnvR X.K H m n env' σ' → But S0 σ σ' → Q σ' H) → tgt v σ H Q) (h : tE X W (eLcN ci g t c vs) σ H Q) : tLc (tI X W ci) tgt (tT X Wno t) (tE X Wno c) vs σ H Q := by
  obtain ⟨m, env, st, S, R, hp⟩ := h
  unfold eLcN at hp
  rw [Rs.post_bind] at hp
  refine lc_tLc hS htg S R (Rs.post_mono hp (fun ys st1 q D H1 m1 xs hD f1 S1 F1 hx r1 => ?_) fun _ _ q => q)
  have hl : (st1 ++ [Ob.lst ys]).length = st1.length + 1 := by simp
  refine q _ H1 (mup (m1.done D) st1.length D) (by rw [hl]; exact f1.undn hD) (S1.made F1 hx r1) ?_
  rw [hl]
  exact ⟨Nat.lt_succ_self _, by rw [mup_new]⟩
theorem de_lc (cx : Cxt M X B k) (h : LcOk X elt tg iter ifs scope own ci g t c) : DE X (.ListComp elt [⟨tg, iter, ifs, 0⟩] scope pos) (eLc ci g t c (own.map (·.2))) := by
  obtain ⟨S0, hS, hg⟩ := h.S0
  exact ⟨fun W tk => PE.imp (pe_lc (wi := tI X W ci) (tt := tT X Wno t) (te := tE X Wno c) cx.calm (by rw [cx.hN]; exact cx.nd) (h.hi.pi W tk) h.ok (lcOk_tg hg) (fun s H C cl fp => (h.ht s H C cl fp).pts Wno takes_no) (fun s H C cl fp => (h.he s H C cl fp).pe Wno takes_no) h.hs) fun σ H Q q => lc_data hS (fun _ _ _ _ z => z) q⟩
theorem de_lcN (cx : Cxt M X B k) (h : LcOk X elt tg iter ifs scope own ci g t c) : DE X (.ListComp elt [⟨tg, iter, ifs, 0⟩] scope pos) (eLcN ci g t c (own.map (·.2))) := by
  obtain ⟨S0, hS, hg⟩ := h.S0
  exact ⟨fun W tk => PE.imp (pe_lc (wi := tI X W ci) (tt := tT X Wno t) (te := tE X Wno c) cx.calm (by rw [cx.hN]; exact cx.nd) (h.hi.pi W tk) h.ok (lcOk_tg hg) (fun s H C cl fp => (h.ht s H C cl fp).pts Wno takes_no) (fun s H C cl fp => (h.he s H C cl fp).pe Wno takes_no) h.hs) fun σ H Q q => lc_store hS (fun _ _ _ _ z => z) q⟩
/-- name = [..] on one line -/
theorem ds_setlc (cx : Cxt M X B k) (i : Nat) {y : Str} {py spos : Pos} (hi : B.N[i]? = some y) (hl : i ∈ B.ps) (hf : B.fn = true) (h : LcOk X elt tg iter ifs scope own ci g t c) (hln : (py.line == pos.line) = true)
    (hany : (scope.names.any fun (n, k) => n == y && (k == .local || k == .cell)) = false) : DS X (.Assign [.Name y py] (.ListComp elt [⟨tg, iter, ifs, 0⟩] scope pos) spos) (sSet i (eLc ci g t c (own.map (·.2)))) := by
  obtain ⟨S0, hS, hg⟩ := h.S0
  have hyl := cx.pl i hl y hi
  refine ⟨fun W tk => PS.imp (ps_setLc (wi := tI X W ci) (tt := tT X Wno t) (te := tE X Wno c) cx.calm (by rw [cx.hN]; exact cx.nd) (by rw [cx.hN]; exact hi) hyl (sw_true (cx.kind hf) hyl hln hany) (h.hi.pi W tk) h.ok (lcOk_tg hg) (fun s H C cl fp => (h.ht s H C cl fp).pts Wno takes_no) (fun s H C cl fp => (h.he s H C cl fp).pe Wno takes_no) h.hs) fun D σ H ⟨m, env, st, S, R, hp⟩ => ?_⟩
  refine lc_data hS (fun _ _ _ _ z => z) ?_
  exact te_sb (f := fun env w st1 => .nx (env.set i (some w)) st1) S R hp fun w st1 v H1 m1 f1 S1 R1 r1 q => q _ H1 m1 f1 S1 (R1.set i r1)
theorem ds_setlcN (cx : Cxt M X B k) (i : Nat) {y : Str} {py spos : Pos} (hi : B.N[i]? = some y) (hl : i ∈ B.ps) (hf : B.fn = true) (h : LcOk X elt tg iter ifs scope own ci g t c) (hln : (py.line == pos.line) = true)
    (hany : (scope.names.any fun (n, k) => n == y && (k == .local || k == .cell)) = false) : DS X (.Assign [.Name y py] (.ListComp elt [⟨tg, iter, ifs, 0⟩] scope pos) spos) (sSet i (eLcN ci g t c (own.map (·.2)))) := by
  obtain ⟨S0, hS, hg⟩ := h.S0
  have hyl := cx.pl i hl y hi
  refine ⟨fun W tk => PS.imp (ps_setLc (wi := tI X W ci) (tt := tT X Wno t) (te := tE X Wno c) cx.calm (by rw [cx.hN]; exact cx.nd) (by rw [cx.hN]; exact hi) hyl (sw_true (cx.kind hf) hyl hln hany) (h.hi.pi W tk) h.ok (lcOk_tg hg) (fun s H C cl fp => (h.ht s H C cl fp).pts Wno takes_no) (fun s H C cl fp => (h.he s H C cl fp).pe Wno takes_no) h.hs) fun D σ H ⟨m, env, st, S, R, hp⟩ => ?_⟩
  refine lc_store hS (fun _ _ _ _ z => z) ?_
  exact te_sb (f := fun env w st1 => .nx (env.set i (some w)) st1) S R hp fun w st1 v H1 m1 f1 S1 R1 r1 q => q _ H1 m1 f1 S1 (R1.set i r1)
end
end
end

section
variable [Wtp] [Tbl]

/-! ## a def and its calls -/
/-- what goes out of a def, the store's newer part being dropped -/
def frzW (n : Nat) (st : Sto) (w : Wv) : Option PyData := match w with
  | .d x => some x
  | .r i => if n ≤ i then match st[i]? with
    | some (.lst xs) => some (.list xs)
    | some (.dct es) => some (.dict es)
    | some (.dtt es) => some (.dict es)
    | some (.lkd es) => some (.dict es)
    | some (.lkl xs) => some (.list xs)
    | none => none
    else none
  | .x _ _ _ => none
def frzA (n : Nat) (st : Sto) : List Wv → Option (List PyData)
  | [] => some []
  | w :: r => match frzW n st w, frzA n st r with
    | some x, some xs => some (x :: xs)
    | _, _ => none
def endR (n : Nat) (st : Sto) : Rt → Rs Wv
  | .w (.d x) => .ok (.d x) (st.take n)
  | .w (.x _ _ _) => .no
  | .w (.r i) => if i < n then .ok (.r i) (st.take n) else match st[i]? with
    | some o => .ok (.r n) (st.take n ++ [o])
    | none => .no
  | .f w => match frzW n st w with
    | some x => .ok (.d x) (st.take n)
    | none => .no
  | .ft ws => match frzA n st ws with
    | some xs => .ok (.d (.tuple xs)) (st.take n)
    | none => .no
def endS (n : Nat) : SR → Rs Wv
  | .nx _ st => .ok (.d .none) (st.take n)
  | .rt p st => endR n st p
  | .ex e st => .ex e (st.take n)
  | .no => .no
/-- a def of np parameters and N names, by its body -/
def mkF (np N : Nat) (body : En → Sto → SR) : List Wv → Sto → Rs Wv := fun ws st => if ws.length = np then endS st.length (body (ws.map some ++ List.replicate (N - ws.length) none) st) else .no

structure Fnk (M : Md) (g : Bool) (k : Nat) (f : Addr) (fd : FuncData) (ps : List Str) (mf : List Wv → Sto → Rs Wv) : Prop where
  len : ∀ ws st Q E, (mf ws st).post Q E → ws.length = ps.length
  run : ∀ (A : Around) (outer : List Env) (s : Shared) (H : Hp) (args : Args) (us : List Value) (vs : List V) (ws : List Wv) (m : Mp) (st : Sto) (Q : VK) (E : XK), Room k A → (g = true → A.guards = some []) → Env0 M.P M.w M.K M.mg M.base A outer s H → BindsTo s fd args (ps.zip us) → Vals vs us →
    Sim M.K H m st → RWs M.K H m st.length vs ws →
    (mf ws st).post (fun w st' => ∀ v H' m', Fol m st.length H m' st'.length H' → Sim M.K H' m' st' → RW M.K H' m' st'.length v w → Q v H') (fun e st' => ∀ c d H' m', Fol m st.length H m' st'.length H' → Sim M.K H' m' st' → ExR M.K M.mg H' m' st'.length e c d → E c d H') →
    codeAny (model M.P M.w) A (.call (.ref f) args) (CR (L2.CX M.P M.w) outer M.P M.w H s Q E) s
theorem Fnk.mono {M : Md} {g : Bool} {j k : Nat} {f : Addr} {fd : FuncData} {ps : List Str} {mf : List Wv → Sto → Rs Wv} (F : Fnk M g j f fd ps mf) (h : j ≤ k) : Fnk M g k f fd ps mf :=
  ⟨F.len, fun A outer s H args us vs ws m st Q E hr => F.run A outer s H args us vs ws m st Q E (hr.mono h)⟩

section
variable {K : Frg} {H H' : Hp} {m m' : Mp} {st : Sto} {n n' : Nat}
theorem off_le {a : Addr} (h : n ≤ n') (z : Off m n' a) : Off m n a := ⟨fun i hi => z.1 i (Nat.lt_of_lt_of_le hi h), z.2⟩
theorem Kp.le (h : n ≤ n') : Kp K H (Off m n') H (Off m n) := ⟨fun _ _ q => q, fun _ _ _ q => q, fun a o _ q z => ⟨q, off_le h z⟩⟩
theorem Sim.take (S : Sim K H m st) (h : n ≤ st.length) : Sim K H m (st.take n) := by
  have hl : (st.take n).length = n := by rw [List.length_take]; omega
  refine ⟨fun i o e => ?_, fun i j hi hj => S.inj i j (by omega) (by omega), S.ff, fun i hi => S.fi i (by omega), S.tb⟩
  have hi : i < n := by have := (List.getElem?_eq_some_iff.mp e).1; omega
  rw [List.getElem?_take_of_lt hi] at e
  have q := S.ob i o e
  rw [hl]
  cases o with
  | lst xs => obtain ⟨vs, h1, h2⟩ := q; exact ⟨vs, h1, h2.mv (.le h)⟩
  | dct kvs => obtain ⟨vs, h1, h2⟩ := q; exact ⟨vs, h1, RpK.kp (.le h) _ _ h2⟩
  | dtt kvs => obtain ⟨vs, h1, h2⟩ := q; exact ⟨vs, h1, RpT.kp (.le h) _ _ h2⟩
  | lkd es => exact Rp.mv q (.le h)
  | lkl xs => exact FzL.mv q (.le h)
theorem Fol.back (f : Fol m n H m' n' H') : Fol m n H m' n H' := ⟨f.tup, f.frz, f.rest, f.old, fun i a b => absurd b (by omega), Nat.le_refl _, f.dom, f.eF⟩
/-- dicts at these places are pinned -/
def fzH (H : Hp) (as : List Addr) (os : Addr → Obj) : Hp := fun b => if b ∈ as then (match H b with
  | some (.dK ks) => some (.frz (os b) (.dK ks))
  | some (.dT ks) => some (.frz (os b) (.dT ks))
  | u => u) else H b
theorem fz_nil (H : Hp) (os : Addr → Obj) : fzH H [] os = H := by funext b; unfold fzH; simp
theorem fz_out {H : Hp} {as : List Addr} {os : Addr → Obj} {b : Addr} (h : b ∉ as) : fzH H as os b = H b := if_neg h
theorem fz_dK {H : Hp} {as : List Addr} {os : Addr → Obj} {b : Addr} {ks : List (Key × V)} (hb : b ∈ as) (h : H b = some (.dK ks)) : fzH H as os b = some (.frz (os b) (.dK ks)) := by unfold fzH; rw [if_pos hb, h]
theorem fz_dT {H : Hp} {as : List Addr} {os : Addr → Obj} {b : Addr} {ks : List (List Key × V)} (hb : b ∈ as) (h : H b = some (.dT ks)) : fzH H as os b = some (.frz (os b) (.dT ks)) := by unfold fzH; rw [if_pos hb, h]
theorem fz_same {H : Hp} {as : List Addr} {os : Addr → Obj} {b : Addr} {u : HO} (h : H b = some u) (h1 : ∀ ks, u ≠ .dK ks) (h2 : ∀ ks, u ≠ .dT ks) : fzH H as os b = some u := by
  unfold fzH
  split
  · rw [h]
    split
    · rename_i ks e; exact absurd (Option.some.inj e) (h1 ks)
    · rename_i ks e; exact absurd (Option.some.inj e) (h2 ks)
    · rfl
  · exact h
theorem fz_nn {H : Hp} {as : List Addr} {os : Addr → Obj} {b : Addr} (h : Nn H b) : Nn (fzH H as os) b := by
  obtain ⟨u, e, nt⟩ := h
  by_cases hk : (∃ ks, u = .dK ks) ∨ ∃ ks, u = .dT ks
  · by_cases hb : b ∈ as
    · rcases hk with ⟨ks, rfl⟩ | ⟨ks, rfl⟩
      · exact ⟨_, fz_dK hb e, fun _ z => nomatch z⟩
      · exact ⟨_, fz_dT hb e, fun _ z => nomatch z⟩
    · exact ⟨u, (fz_out hb).trans e, nt⟩
  · exact ⟨u, fz_same e (fun ks z => hk (.inl ⟨ks, z⟩)) (fun ks z => hk (.inr ⟨ks, z⟩)), nt⟩
theorem fz_tabs {T : List (Addr × Str)} {H : Hp} {as : List Addr} {os : Addr → Obj} (t : LamX.Tabs T H) : LamX.Tabs T (fzH H as os) := fun p hp => by
  obtain ⟨ps, h1, h2, h3⟩ := t p hp
  refine ⟨ps, fz_same h1 (fun _ z => nomatch z) (fun _ z => nomatch z), h2, fun pos cv hc => ?_⟩
  obtain ⟨c, e, hq⟩ := h3 pos cv hc
  exact ⟨c, e, fz_same hq (fun _ z => nomatch z) (fun _ z => nomatch z)⟩
theorem fz_kp {H : Hp} {as : List Addr} {os : Addr → Obj} {Z Z' : Addr → Prop} (h : ∀ a, Z a → Z' a) : Kp K H Z (fzH H as os) Z' :=
  ⟨fun a xs e => fz_same e (fun _ z => nomatch z) (fun _ z => nomatch z), fun a o u e => fz_same e (fun _ z => nomatch z) (fun _ z => nomatch z), fun a o ⟨xs, ho⟩ e z => ⟨by subst ho; exact fz_same e (fun _ z => nomatch z) (fun _ z => nomatch z), h a z⟩⟩
theorem freezeAll {X : Cx} {pins : List (Addr × Obj)} {σ : L2.St} {s : Shared} (I : Inv X pins σ H s) : ∀ as : List Addr, ∃ os, Inv X pins σ (fzH H as os) s
  | [] => ⟨fun _ => { cls := .none, data := .plain }, by rw [fz_nil]; exact I⟩
  | a :: as => by
    obtain ⟨os, J⟩ := freezeAll I as
    by_cases ha : a ∈ as
    · refine ⟨os, ?_⟩
      rw [show fzH H (a :: as) os = fzH H as os from by
        funext b
        unfold fzH
        by_cases hb : b ∈ as
        · rw [if_pos (List.mem_cons_of_mem _ hb), if_pos hb]
        · rw [if_neg hb, if_neg (fun z => by rcases List.mem_cons.mp z with rfl | z <;> contradiction)]]
      exact J
    · have go : ∀ u, H a = some u → ((∃ ks, u = .dK ks) ∨ ∃ ks, u = .dT ks) → ∃ os, Inv X pins σ (fzH H (a :: as) os) s := fun u e hu => by
        obtain ⟨o, J2⟩ := Inv.freeze J (a := a) (u := u) (by rw [fz_out ha]; exact e) hu
        refine ⟨fun b => if b = a then o else os b, ?_⟩
        rw [show fzH H (a :: as) (fun b => if b = a then o else os b) = upd (fzH H as os) a (.frz o u) from by
          funext b
          by_cases hb : b = a
          · subst hb
            rw [upd_same]
            rcases hu with ⟨ks, rfl⟩ | ⟨ks, rfl⟩
            · rw [fz_dK (List.mem_cons_self ..) e, if_pos rfl]
            · rw [fz_dT (List.mem_cons_self ..) e, if_pos rfl]
          · rw [upd_ne hb]
            unfold fzH
            by_cases hb2 : b ∈ as
            · rw [if_pos (List.mem_cons_of_mem _ hb2), if_pos hb2]
              split <;> simp_all
            · rw [if_neg hb2, if_neg (fun z => by rcases List.mem_cons.mp z with rfl | z <;> contradiction)]]
        exact J2
      by_cases hk : ∃ u, H a = some u ∧ ((∃ ks, u = .dK ks) ∨ ∃ ks, u = .dT ks)
      · obtain ⟨u, e, hu⟩ := hk
        exact go u e hu
      · refine ⟨os, ?_⟩
        rw [show fzH H (a :: as) os = fzH H as os from by
          funext b
          by_cases hb : b = a
          · subst hb
            rw [fz_out ha]
            cases e : H b with
            | none => unfold fzH; rw [if_pos (List.mem_cons_self ..), e]
            | some u => exact fz_same e (fun ks z => hk ⟨u, e, .inl ⟨ks, z⟩⟩) (fun ks z => hk ⟨u, e, .inr ⟨ks, z⟩⟩)
          · unfold fzH
            by_cases hb2 : b ∈ as
            · rw [if_pos (List.mem_cons_of_mem _ hb2), if_pos hb2]
            · rw [if_neg hb2, if_neg (fun z => by rcases List.mem_cons.mp z with rfl | z <;> contradiction)]]
        exact J
def asOf (m : Mp) : Wv → List Addr
  | .r i => [m.ix i]
  | _ => []
/-- only what is newer than n is pinned -/
def AsNew (m : Mp) (n n' : Nat) (as : List Addr) : Prop := ∀ a ∈ as, ∃ i, n ≤ i ∧ i < n' ∧ m.ix i = a
theorem rw_frz {v : V} {w : Wv} {x : PyData} {as : List Addr} {os : Addr → Obj} (S : Sim K H m st) (hn : n ≤ st.length) (r : RW K H m st.length v w) (e : frzW n st w = some x) (ha : ∀ a ∈ asOf m w, a ∈ as) : Rp K (fzH H as os) (Off m n) v x := by
  have kp : Kp K H (Off m st.length) (fzH H as os) (Off m n) := fz_kp fun a z => off_le hn z
  unfold frzW at e
  split at e
  · cases e; exact Rp.mv r kp
  · rename_i i
    split at e
    · rename_i hi
      have hz : Off m n (m.ix i) := ⟨fun j hj q => by have := S.inj j i (by omega) r.1 q; omega, S.fi i r.1⟩
      rw [r.2]
      split at e
      · rename_i xs e1
        cases e
        obtain ⟨vs, h1, h2⟩ := S.ob i _ e1
        exact .lst (.inl ⟨fz_same h1 (fun _ z => nomatch z) (fun _ z => nomatch z), hz⟩) (h2.mv kp)
      · rename_i es e1
        cases e
        obtain ⟨vs, h1, h2⟩ := S.ob i _ e1
        exact .dic (fz_dK (ha _ (by simp [asOf])) h1) (RpK.kp kp _ _ h2)
      · rename_i es e1
        cases e
        obtain ⟨vs, h1, h2⟩ := S.ob i _ e1
        exact .dit (fz_dT (ha _ (by simp [asOf])) h1) (RpT.kp kp _ _ h2)
      · rename_i es e1
        cases e
        exact Rp.mv (show Rp K H (Off m st.length) (.ref (m.ix i)) (.dict es) from S.ob i _ e1) kp
      · rename_i xs e1
        cases e
        exact (FzL.mv (show FzL K H (Off m st.length) (m.ix i) xs from S.ob i _ e1) kp).rp
      · cases e
    · cases e
  · cases e
theorem rws_frz {as : List Addr} {os : Addr → Obj} : ∀ {vs : List V} {ws : List Wv} {xs : List PyData} (S : Sim K H m st) (hn : n ≤ st.length) (r : RWs K H m st.length vs ws) (e : frzA n st ws = some xs) (ha : ∀ a ∈ ws.flatMap (asOf m), a ∈ as), RpA K (fzH H as os) (Off m n) vs xs
  | _, _, _, S, hn, .nil, e, _ => by cases e; exact .nil
  | _, _, _, S, hn, .cons r1 r2, e, ha => by
    unfold frzA at e
    split at e
    · rename_i x xs e1 e2
      cases e
      exact .cons (rw_frz S hn r1 e1 fun a h => ha a (by simp [h])) (rws_frz S hn r2 e2 fun a h => ha a (by simp only [List.flatMap_cons, List.mem_append]; exact .inr h))
    · cases e
/-- the same without dicts of the store -/
def frzL (n : Nat) (st : Sto) (w : Wv) : Option PyData := match w with
  | .d x => some x
  | .r i => if n ≤ i then match st[i]? with
    | some (.lst xs) => some (.list xs)
    | _ => none
    else none
  | .x _ _ _ => none
theorem rl_frz {v : V} {w : Wv} {x : PyData} (S : Sim K H m st) (hn : n ≤ st.length) (r : RW K H m st.length v w) (e : frzL n st w = some x) : Rp K H (Off m n) v x := by
  unfold frzL at e
  split at e
  · cases e; exact Rp.mv r (.le hn)
  · rename_i i
    split at e
    · rename_i hi
      have hz : Off m n (m.ix i) := ⟨fun j hj q => by have := S.inj j i (by omega) r.1 q; omega, S.fi i r.1⟩
      rw [r.2]
      split at e
      · rename_i xs e1
        cases e
        obtain ⟨vs, h1, h2⟩ := S.ob i _ e1
        exact .lst (.inl ⟨h1, hz⟩) (h2.mv (.le hn))
      · cases e
    · cases e
  · cases e
def newA (n : Nat) (m : Mp) : Wv → List Addr
  | .r i => if n ≤ i then [m.ix i] else []
  | _ => []
theorem newA_new {n n' : Nat} {w : Wv} (h : ∀ i, w = .r i → i < n') : AsNew m n n' (newA n m w) := fun a ha => by
  cases w with
  | d x => cases ha
  | x a c d => cases ha
  | r i =>
    by_cases hi : n ≤ i
    · simp only [newA, if_pos hi, List.mem_singleton] at ha
      exact ⟨i, hi, h i rfl, ha.symm⟩
    · simp only [newA, if_neg hi] at ha
      cases ha
theorem newA_all {w : Wv} {x : PyData} (e : frzW n st w = some x) : ∀ a ∈ asOf m w, a ∈ newA n m w := fun a ha => by
  cases w with
  | d x => cases ha
  | x a c d => cases ha
  | r i =>
    by_cases hi : n ≤ i
    · simp only [newA, if_pos hi]; exact ha
    · simp only [frzW, if_neg hi] at e
      cases e
theorem newAs_new {n n' : Nat} : ∀ {vs : List V} {ws : List Wv}, RWs K H m n' vs ws → AsNew m n n' (ws.flatMap (newA n m))
  | _, _, .nil => fun a ha => by cases ha
  | _, _, .cons r1 r2 => fun a ha => by
    rw [List.flatMap_cons, List.mem_append] at ha
    rcases ha with ha | ha
    · exact newA_new (fun i e => by subst e; exact r1.1) a ha
    · exact newAs_new r2 a ha
theorem frzA_mem : ∀ {ws : List Wv} {xs : List PyData}, frzA n st ws = some xs → ∀ w ∈ ws, ∃ x, frzW n st w = some x
  | [], _, _, w, hw => by cases hw
  | u :: r, xs, e, w, hw => by
    unfold frzA at e
    split at e
    · rename_i x ys e1 e2
      rcases List.mem_cons.mp hw with rfl | hw
      · exact ⟨x, e1⟩
      · exact frzA_mem e2 w hw
    · cases e
theorem Sim.fz' {as : List Addr} {os : Addr → Obj} (S : Sim K H m st) (h : n ≤ st.length) (hA : ∀ i, i < n → m.ix i ∉ as) : Sim K (fzH H as os) m (st.take n) := by
  have T := S.take h
  have hl : (st.take n).length = n := by rw [List.length_take]; omega
  have kp : Kp K H (Off m (st.take n).length) (fzH H as os) (Off m (st.take n).length) := fz_kp fun a z => z
  refine ⟨fun i o e => ?_, T.inj, fun a z => fz_nn (T.ff a z), T.fi, ?_⟩
  · have hi : i < n := by have := (List.getElem?_eq_some_iff.mp e).1; omega
    have no : m.ix i ∉ as := hA i hi
    have q := T.ob i o e
    cases o with
    | lst xs => obtain ⟨vs, h1, h2⟩ := q; exact ⟨vs, by rw [fz_out no]; exact h1, h2.mv kp⟩
    | dct kvs => obtain ⟨vs, h1, h2⟩ := q; exact ⟨vs, by rw [fz_out no]; exact h1, RpK.kp kp _ _ h2⟩
    | dtt kvs => obtain ⟨vs, h1, h2⟩ := q; exact ⟨vs, by rw [fz_out no]; exact h1, RpT.kp kp _ _ h2⟩
    | lkd es => exact Rp.mv q kp
    | lkl xs => exact FzL.mv q kp
  · exact fz_tabs T.tb
theorem Sim.fz {as : List Addr} {os : Addr → Obj} (S : Sim K H m st) (h : n ≤ st.length) (hA : AsNew m n st.length as) : Sim K (fzH H as os) m (st.take n) := S.fz' h fun i hi z => by
  obtain ⟨j, h1, h2, h3⟩ := hA _ z
  have := S.inj j i h2 (by omega) h3
  omega
theorem fz_one {H : Hp} {p : Addr} {o : Obj} {xs : List (Key × V)} : fzH (upd H p (.dK xs)) [p] (fun _ => o) = upd H p (.frz o (.dK xs)) := by
  funext b
  by_cases hb : b = p
  · subst hb; rw [fz_dK (List.mem_cons_self ..) upd_same, upd_same]
  · rw [fz_out (by simpa using hb), upd_ne hb, upd_ne hb]
theorem Fol.fz {as : List Addr} {os : Addr → Obj} (f : Fol m n H m' n' H') (hA : AsNew m' n n' as) : Fol m n H m' n' (fzH H' as os) := by
  have no : ∀ {a}, Nn H a → a ∉ as := fun {a} h z => by
    obtain ⟨i, h1, h2, h3⟩ := hA _ z
    exact f.new i h1 h2 (h3 ▸ h)
  exact ⟨fun a xs e => fz_same (f.tup a xs e) (fun _ z => nomatch z) (fun _ z => nomatch z), fun a o u e => fz_same (f.frz a o u e) (fun _ z => nomatch z) (fun _ z => nomatch z), fun a o nt e z => by rw [fz_out (no ⟨o, e, nt⟩)]; exact f.rest a o nt e z, f.old, f.new, f.le, fun a h => fz_nn (f.dom a h), f.eF⟩
/-- a newer object becomes the next one -/
theorem Sim.keep1 {i : Nat} {o : Ob} (S : Sim K H m st) (hn : n ≤ i) (e : st[i]? = some o) : Sim K H (mup m n (m.ix i)) (st.take n ++ [o]) := by
  have hi : i < st.length := (List.getElem?_eq_some_iff.mp e).1
  have hl : (st.take n).length = n := by rw [List.length_take]; omega
  have hl2 : (st.take n ++ [o]).length = n + 1 := by simp [hl]
  have hx : ∀ j, j < n → m.ix j ≠ m.ix i := fun j hj q => by have := S.inj j i (by omega) hi q; omega
  have kp : Kp K H (Off m st.length) H (Off (mup m n (m.ix i)) (n + 1)) := ⟨fun _ _ q => q, fun _ _ _ q => q, fun a o _ q z => ⟨q, fun j hj e2 => by
    by_cases q : j < n
    · rw [mup_old q] at e2; exact z.1 j (by omega) e2
    · rw [show j = n by omega, mup_new] at e2; exact z.1 i hi e2
  , z.2⟩⟩
  refine ⟨fun j u e2 => ?_, fun j l hj hk e2 => ?_, S.ff, fun j hj => ?_, S.tb⟩
  · rw [hl2]
    by_cases q : j < n
    · rw [List.getElem?_append_left (by omega), List.getElem?_take_of_lt q] at e2
      have h := S.ob j u e2
      rw [mup_old q]
      cases u with
      | lst xs => obtain ⟨vs, h1, h2⟩ := h; exact ⟨vs, h1, h2.mv kp⟩
      | dct kvs => obtain ⟨vs, h1, h2⟩ := h; exact ⟨vs, h1, RpK.kp kp _ _ h2⟩
      | dtt kvs => obtain ⟨vs, h1, h2⟩ := h; exact ⟨vs, h1, RpT.kp kp _ _ h2⟩
      | lkd es => exact Rp.mv h kp
      | lkl xs => exact FzL.mv h kp
    · have ej : j = n := by have := (List.getElem?_eq_some_iff.mp e2).1; omega
      subst ej
      rw [List.getElem?_append_right (by omega), hl] at e2
      simp at e2
      subst e2
      rw [mup_new]
      have h := S.ob i o e
      cases o with
      | lst xs => obtain ⟨vs, h1, h2⟩ := h; exact ⟨vs, h1, h2.mv kp⟩
      | dct kvs => obtain ⟨vs, h1, h2⟩ := h; exact ⟨vs, h1, RpK.kp kp _ _ h2⟩
      | dtt kvs => obtain ⟨vs, h1, h2⟩ := h; exact ⟨vs, h1, RpT.kp kp _ _ h2⟩
      | lkd es => exact Rp.mv h kp
      | lkl xs => exact FzL.mv h kp
  · rw [hl2] at hj hk
    by_cases q : j < n
    · by_cases q2 : l < n
      · rw [mup_old q, mup_old q2] at e2; exact S.inj j l (by omega) (by omega) e2
      · rw [mup_old q, show l = n by omega, mup_new] at e2; exact absurd e2 (hx j q)
    · by_cases q2 : l < n
      · rw [show j = n by omega, mup_new, mup_old q2] at e2; exact absurd e2.symm (hx l q2)
      · omega
  · rw [hl2] at hj
    by_cases q : j < n
    · rw [mup_old q]; exact S.fi j (by omega)
    · rw [show j = n by omega, mup_new]; exact S.fi i hi
theorem Fol.keep1 {i : Nat} (f : Fol m n H m' n' H') (hi : n ≤ i) (hi2 : i < n') : Fol m n H (mup m' n (m'.ix i)) (n + 1) H' where
  tup := f.tup
  frz := f.frz
  rest := f.rest
  old j hj := by rw [mup_old hj]; exact f.old j hj
  new j h1 h2 := by rw [show j = n by omega, mup_new]; exact f.new i hi hi2
  le := Nat.le_succ n
  dom := f.dom
  eF := f.eF
end
/-- what a scope must tell -/
def fnT (B : Tb) (sc : Scope) : Bool :=
  (B.us.all fun i => match B.N[i]? with | some x => kdV (sc.names.lookup x) | none => true) &&
  ((B.ls.all fun i => match B.N[i]? with | some x => kdL (sc.names.lookup x) | none => true) &&
  ((B.ps.all fun i => match B.N[i]? with | some x => decide (sc.names.lookup x = some .local) | none => true) &&
  ((B.gs.all fun x => kdG (sc.names.lookup x)) && ((B.cs.all fun x => kdC (sc.names.lookup x)) && B.fn))))
theorem kdV_vis {sc : Scope} {x : Str} (h : kdV (sc.names.lookup x) = true) : Vis sc x := by
  unfold kdV at h
  split at h
  · exact .inl (by assumption)
  · exact .inr (.inl (by assumption))
  · exact .inr (.inr (by assumption))
  · cases h
theorem kdL_loc {sc : Scope} {x : Str} (h : kdL (sc.names.lookup x) = true) : Loc sc x := by
  unfold kdL at h
  split at h
  · exact .inl (by assumption)
  · exact .inr (by assumption)
  · cases h
theorem kdC_cap {sc : Scope} {x : Str} (h : kdC (sc.names.lookup x) = true) : sc.names.lookup x = some .cell ∨ sc.names.lookup x = some .free := by
  unfold kdC at h
  split at h
  · exact .inl (by assumption)
  · exact .inr (by assumption)
  · cases h
theorem kdG_gl {sc : Scope} {x : Str} (h : kdG (sc.names.lookup x) = true) : sc.names.lookup x = some .globalImplicit := by
  unfold kdG at h
  split at h
  · assumption
  · cases h
theorem SR.post_end {x : SR} {n : Nat} {Q : Wv → Sto → Prop} {E : Xc → Sto → Prop} (h : (endS n x).post Q E) : x.post (fun _ st => Q (.d .none) (st.take n)) (fun p st => (endR n st p).post Q E) (fun e st => E e (st.take n)) := by
  cases x with
  | nx env st => exact h
  | rt p st => exact h
  | ex e st => exact h
  | no => exact h
/-- a def, by its body -/
theorem fnk_of {M : Md} {B : Tb} {k : Nat} {f : Addr} {name qual : Str} {params : Arguments} {body : List Stmt} {scope : Scope} {dV kV doc pm cdv ct oc : Value} {an od : Option Addr} {osl : Array (Option Value)} {ps : List Str} {cb : En → Sto → SR} {np nN : Nat}
    (hf : M.K.lookup f = some ⟨oc, od, .func (PySem.W.fnOf name qual params body scope dV kV doc pm an cdv ct), osl⟩) (hcode : PySem.W.codeIn M.K cdv qual = true) (SC : FnScope B.N ps scope) (hT : fnT B scope = true) (hnp : ps.length = np) (hnN : B.N.length = nN)
    (hb : ∀ X : Cx, Cxt M X B k → DB X body cb) (hlam : ∀ q, B.lq = some q → (qual ++ ".<locals>.") ++ "<lambda>" = q ∧ LamC M.mg M.base q cdv := by intro _ h; exact nomatch (show (none : Option Str) = some _ from h)) : Fnk M B.gd (k + 1) f (PySem.W.fnOf name qual params body scope dV kV doc pm an cdv ct) ps (mkF np nN cb) := by
  have arity : ∀ ws st Q E, (mkF np nN cb ws st).post Q E → ws.length = ps.length := fun ws st Q E h => by
    unfold mkF at h
    split at h
    · rw [hnp]; assumption
    · exact h.elim
  refine ⟨arity, fun A outer s H args us vs ws m st Q E room guard e0 bound rv S rw0 hp => ?_⟩
  have hwl := arity _ _ _ _ hp
  have hvl : vs.length = ps.length := rw0.len.trans hwl
  have inK : M.K.In s.heap := e0.mod.kin.keeps fun b o e => (e0.bs b o e).1
  have noLim : s.heap.NoLimit := e0.mod.nolimit.keeps fun b o e => (e0.bs b o e).1
  have kinds : ∀ y ∈ ps.zip us, scope.names.lookup y.1 = some .local ∨ (scope.names.lookup y.1 = some .cell ∧ ((cellsFrom (s.heap.objs.size + 1) scope.names []).lookup y.1).isSome = true) := by
    rintro ⟨y, v⟩ hy
    have hy' := SC.par y (List.of_mem_zip hy).1
    exact hy'.imp id fun q => ⟨q, PySem.W.cellsFrom_some _ _ _ (.inl q)⟩
  refine codeAny_call_function room.depth (inK _ _ hf) rfl SC.co SC.gen rfl (PySem.W.codeRec_of inK hcode) (bound _ _ _ _ (wpAny_newFunctionEnv_cells SC.kind kinds fun env henv s1 x => ?_))
  subst henv
  refine ⟨noLim.keeps x.toInCall.keep, codeAny_func ?_⟩
  generalize hX : cxOf (L2.CX M.P M.w) M.P M.w M.K M.mg M.base B.N qual scope f cdv A outer s H E = X
  have hI : Inv X [] (start B.N vs) H s1 := by rw [← hX]; exact inv_start SC room.hd e0 hvl rv x
  unfold fnT at hT
  simp only [Bool.and_eq_true, List.all_eq_true, decide_eq_true_eq] at hT
  obtain ⟨t1, t2, t3, t4, t5, t6⟩ := hT
  have hC : Cxt M X B k := by
    subst hX
    refine ⟨rfl, rfl, rfl, rfl, rfl, rfl, SC.nd, rfl, fun _ => SC.kind, room.deeper _, guard, fun i hi x hx => ?_, fun i hi x hx => ?_, fun i hi x hx => ?_, fun j x hx => kdG_gl (t4 x (List.mem_of_getElem? hx)), fun x hx => kdC_cap (t5 x hx), fun _ => passes_of rfl, hlam⟩
    · have q := t1 i hi
      rw [hx] at q
      exact kdV_vis q
    · have q := t2 i hi
      rw [hx] at q
      exact ⟨kdL_loc q, .inl rfl⟩
    · have q := t3 i hi
      rw [hx] at q
      exact of_decide_eq_true q
  have tk : Takes X (fun c d _ H' => E c d H') := by subst hX; exact takes_of rfl rfl rfl rfl
  have hR : EnvR X.K H m st.length (ws.map some ++ List.replicate (nN - ws.length) none) (start B.N vs) := by
    refine ⟨?_, fun i w hw => ?_⟩
    · unfold L2.start; simp [rw0.len, hnN]
    · have hi : i < ws.length := by
        rcases Nat.lt_or_ge i ws.length with z | z
        · exact z
        · rw [List.getElem?_append_right (by simpa using z)] at hw
          have := List.mem_of_getElem? hw
          simp at this
      rw [List.getElem?_append_left (by simpa using hi)] at hw
      have get : ∀ {vs : List V} {ws : List Wv} {i : Nat} {w : Wv}, RWs M.K H m st.length vs ws → ws[i]? = some w → ∃ v, vs[i]? = some v ∧ RW M.K H m st.length v w := by
        intro vs ws i w r
        induction r generalizing i with
        | nil => intro e; simp at e
        | cons r1 _ ih =>
          intro e
          cases i with
          | zero => simp at e; subst e; exact ⟨_, rfl, r1⟩
          | succ i => simpa using ih (by simpa using e)
      obtain ⟨v, hv, r⟩ := get rw0 (i := i) (w := w) (by simpa [hi] using hw)
      refine ⟨v, ?_, by subst hX; exact r⟩
      unfold L2.start
      rw [List.getElem?_append_left (by have := (List.getElem?_eq_some_iff.mp hv).1; simpa using this)]
      simp [hv]
  have hK : X.K = M.K := hC.hK
  have hmg : X.mg = M.mg := hC.mg
  have run := ((hb X hC).pss _ tk).run [] s1 (start B.N vs) H { nx := fun _ H' => Q .non H', rt := fun v H' => ∃ as, ∀ os, Q v (fzH H' as os) } hI
  unfold mkF at hp
  rw [if_pos (hwl.trans hnp)] at hp
  have hp2 := SR.post_end hp
  have fin : ∀ {σ' : L2.St} {H' : Hp} {v : V} {u : Value} {s' : Shared}, Inv X [] σ' H' s' → RelV v u → Q v H' → CE outer M.P M.w H s Q u s' := fun {σ' H' v u s'} J rv q => by
    subst hX
    exact ⟨v, H', J.os, J.bare, J.base, J.hok, rv, q⟩
  have hA : X.A = A.deeper (envOfC qual scope s.heap.objs.size f cdv) := by rw [← hX]; rfl
  have hxe : ∀ e s', X.xe e s' = wpAny (model M.P M.w) (A.deeper (envOfC qual scope s.heap.objs.size f cdv)) (leaving (envOfC qual scope s.heap.objs.size f cdv) e) (fun _ s'' => L2.CX M.P M.w outer H s E e s'') (fun e' s'' => L2.CX M.P M.w outer H s E e' s'') s' := fun e s' => by rw [← hX]; rfl
  have run2 := run ⟨m, _, st, by rw [hK]; exact S, hR, SR.post_mono hp2 (fun env st' q σ' H' m' f S' _ => ?_) (fun p st' q v H' m' f S' r => ?_) fun e st' q c d σ' H' m' f S' r => ?_⟩
  · subst hX
    refine wpAny_mono run2 (fun fl s' hs => ?_) fun e s' hs => hs
    cases fl with
    | ret u => obtain ⟨v, σ', H', J, rv, as, q⟩ := hs; obtain ⟨os, J2⟩ := freezeAll J as; exact fin J2 rv (q os)
    | next => obtain ⟨σ', H', J, q⟩ := hs; exact fin (v := V.non) (u := Value.none) J rfl q
    | brk => obtain ⟨_, _, _, q⟩ := hs; exact q.elim
    | cont => obtain ⟨_, _, _, q⟩ := hs; exact q.elim
  · have tl : (st'.take st.length).length = st.length := by rw [List.length_take]; have := f.le; omega
    rw [hK] at S'
    exact q .non H' m' (by rw [tl]; exact f.back) (S'.take f.le) .non
  · have tl : (st'.take st.length).length = st.length := by rw [List.length_take]; have := f.le; omega
    rw [hK] at S' r
    have plain : Q v H' → ∃ as, ∀ os, Q v (fzH H' as os) := fun z => ⟨[], fun os => by rw [fz_nil]; exact z⟩
    unfold endR at q
    split at q
    · exact plain (q _ H' m' (by rw [tl]; exact f.back) (S'.take f.le) (by rw [tl]; exact Rp.mv r (.le f.le)))
    · exact q.elim
    · rename_i i
      split at q
      · rename_i hi
        exact plain (q _ H' m' (by rw [tl]; exact f.back) (S'.take f.le) (by rw [tl]; exact ⟨hi, r.2⟩))
      · rename_i hi
        split at q
        · rename_i o eo
          have tl2 : (st'.take st.length ++ [o]).length = st.length + 1 := by simp [tl]
          exact plain (q _ H' (mup m' st.length (m'.ix i)) (by rw [tl2]; exact f.keep1 (by omega) r.1) (S'.keep1 (by omega) eo) (by rw [tl2]; exact ⟨Nat.lt_succ_self _, by rw [mup_new]; exact r.2⟩))
        · exact q.elim
    · rename_i w
      split at q
      · rename_i x ex
        have hA : AsNew m' st.length st'.length (newA st.length m' w) := newA_new (fun i e => by subst e; exact r.1)
        exact ⟨newA st.length m' w, fun os => q _ _ m' (by rw [tl]; exact (f.fz hA).back) (S'.fz f.le hA) (by rw [tl]; exact rw_frz S' f.le r ex (newA_all ex))⟩
      · exact q.elim
    · rename_i ws
      split at q
      · rename_i xs ex
        obtain ⟨a, us', rfl, h1, h2⟩ := r
        have hA : AsNew m' st.length st'.length (ws.flatMap (newA st.length m')) := newAs_new h2
        exact ⟨ws.flatMap (newA st.length m'), fun os => q _ _ m' (by rw [tl]; exact (f.fz hA).back) (S'.fz f.le hA) (by rw [tl]; exact .tup (.inl (fz_same h1 (fun _ z => nomatch z) (fun _ z => nomatch z))) (rws_frz S' f.le h2 ex fun a ha => by
          obtain ⟨w, hw, hb⟩ := List.mem_flatMap.mp ha
          obtain ⟨x, ex2⟩ := frzA_mem ex w hw
          exact List.mem_flatMap.mpr ⟨w, hw, newA_all ex2 a hb⟩))⟩
      · exact q.elim
  · have tl : (st'.take st.length).length = st.length := by rw [List.length_take]; have := f.le; omega
    rw [hK] at S' r
    rw [hmg] at r
    refine q c d H' m' (by rw [tl]; exact f.back) (S'.take f.le) ⟨r.cls, ?_⟩
    rw [tl]
    rcases r.fld with z | ⟨dd, h1, fs, h2, h3, h4, h5⟩
    · exact .inl z
    · exact .inr ⟨dd, h1, fs, h2, h3, h4.mv (.le f.le), off_le f.le h5⟩

def eCall (mf : List Wv → Sto → Rs Wv) (cs : En → Sto → Rs (List Wv)) : En → Sto → Rs Wv := fun env st => (cs env st).bind mf
section
variable {M : Md} {X : Cx} {B : Tb} {k : Nat} {f : Addr} {fd : FuncData} {ps : List Str} {mf : List Wv → Sto → Rs Wv} {cs : En → Sto → Rs (List Wv)} {x : Str} {p pos : Pos} {e : Expr} {es : List Expr}
theorem de_call {g : Bool} (c : Cxt M X B k) (F : Fnk M g k f fd ps mf) (j : Nat) (hg : B.gs[j]? = some x) (hm : M.mg x = some (.ref f)) (hk : PySem.W.keepIn M.K (.ref f) = true) (hb : Binds M.K fd ps []) (ha : DA X (e :: es) cs) (hgd : g = true → B.gd = true) (hdb : (x == ("__debug__" : Str)) = false := by decide)
    (he : starEach (e :: es) X.env = (false, eval e X.env) :: starEach es X.env := by rfl) (hpl : (backTo pos (starEach es X.env)).any (·.1) = false := by rfl) : DE X (.Call (.Name x p) (e :: es) [] pos) (eCall mf cs) := by
  obtain ⟨P, w, K, mg, base⟩ := M
  obtain ⟨rfl, rfl, rfl, rfl, rfl⟩ : X.prog = P ∧ X.w = w ∧ X.K = K ∧ X.mg = mg ∧ X.base = base := ⟨c.hP, c.hw, c.hK, c.mg, c.hb⟩
  refine .mk' fun W pins σ H s m env st Q tk I S R hp => ?_
  unfold eCall at hp
  rw [Rs.post_bind] at hp
  refine wpAny_Call_Name_kw (ld_glob I (c.gl j x hg) hm ?_ hdb)
  refine PySem.W.callWith_K (h₀ := X.base) I.ok.mod.kin hk (ha.go tk I S R pos (Rs.post_mono hp (fun ws st1 q vs H1 m1 us s1 I1 rv f1 S1 r1 => ⟨I1.kIn, ?_⟩) fun _ _ q => q)) he hpl
  have hl : us.length = ps.length := by rw [← rv.length, r1.len]; exact F.len _ _ _ _ q
  have bd := hb s1 us I1.kIn (by rw [List.append_nil]; exact hl)
  rw [List.append_nil] at bd
  refine wpAny_call (codeAny_mono (F.run X.A X.stack s1 H1 ⟨us, []⟩ us vs ws m1 st1 (fun v H' => ∀ u s', Inv X pins σ H' s' → RelV v u → Q u s') (WE W σ) c.room (fun z => c.gu (hgd z)) I1.env0 bd rv S1 r1 (Rs.post_mono q (fun w st2 q2 v H2 m2 f2 S2 r2 u s2 I2 rv2 => ?_) fun e st2 q2 c d H2 m2 f2 S2 r2 => ?_)) fun r s2 hq => ?_)
  · exact q2 v H2 m2 u s2 I2 rv2 (f1.trans f2) S2 r2
  · exact q2 c d H2 m2 (f1.trans f2) S2 r2
  · cases r with
    | error e => exact passAt tk σ pins H1 s1 e s2 I1 hq
    | ok fl =>
      cases fl with
      | ret u =>
        obtain ⟨v, H2, I2, rv2, q2⟩ := I1.after hq
        exact q2 u s2 I2 rv2
      | next => exact False.elim hq
      | brk => exact False.elim hq
      | cont => exact False.elim hq
end
end

section
variable [Wtp] [Tbl]

/-! ## the store is written -/
section
variable {K : Frg} {H H' : Hp} {m m' : Mp} {st : Sto} {n n' : Nat}
theorem Kp.wr {i : Nat} {o o' : HO} (hi : i < n) (h : H (m.ix i) = some o) (ho : (∃ xs, o = .lst xs) ∨ (∃ kvs, o = .dK kvs) ∨ ∃ kvs, o = .dT kvs) : Kp K H (Off m n) (upd H (m.ix i) o') (Off m n) := by
  refine ⟨fun a xs e => ?_, fun a q u e => ?_, fun a q _ e z => ⟨?_, z⟩⟩
  · rw [upd_ne]; exact e
    intro q; rw [q, h] at e
    rcases ho with ⟨_, rfl⟩ | ⟨_, rfl⟩ | ⟨_, rfl⟩ <;> cases e
  · rw [upd_ne]; exact e
    intro q; rw [q, h] at e
    rcases ho with ⟨_, rfl⟩ | ⟨_, rfl⟩ | ⟨_, rfl⟩ <;> cases e
  · rw [upd_ne]; exact e
    exact fun q => z.1 i hi q.symm
theorem Fol.wr {i : Nat} {o o' : HO} (hi : i < n) (h : H (m.ix i) = some o) (ho : (∃ xs, o = .lst xs) ∨ (∃ kvs, o = .dK kvs) ∨ ∃ kvs, o = .dT kvs) (nt : NT o' := by exact fun _ z => nomatch z) : Fol m n H m n (upd H (m.ix i) o') := by
  have kp := Kp.wr (K := ([] : Frg)) (o' := o') hi h ho
  refine ⟨kp.tup, kp.frz, fun a u _ e z => ?_, fun _ _ => rfl, fun i a b => absurd b (by omega), Nat.le_refl _, fun a e => ?_, fun _ _ => Iff.rfl⟩
  · rw [upd_ne]; exact e
    exact fun q => z i hi q.symm
  · by_cases q : a = m.ix i
    · rw [q]; exact ⟨_, upd_same, nt⟩
    · obtain ⟨u, e1, e2⟩ := e
      exact ⟨u, by rw [upd_ne q]; exact e1, e2⟩
theorem Sim.wr {i : Nat} {o o' : HO} {ob : Ob} (S : Sim K H m st) (hi : i < st.length) (h : H (m.ix i) = some o) (ho : (∃ xs, o = .lst xs) ∨ (∃ kvs, o = .dK kvs) ∨ ∃ kvs, o = .dT kvs) (hob : ObAt K (upd H (m.ix i) o') m st.length (m.ix i) ob) (nt : NT o' := by exact fun _ z => nomatch z) : Sim K (upd H (m.ix i) o') m (st.set i ob) := by
  have kp := Kp.wr (K := K) (o' := o') hi h ho
  have f := Fol.wr (o' := o') hi h ho nt
  have hl : (st.set i ob).length = st.length := List.length_set
  refine ⟨fun j u e => ?_, fun a b ha hb => S.inj a b (hl ▸ ha) (hl ▸ hb), fun a z => f.dom a (S.ff a z), fun j hj => S.fi j (hl ▸ hj), S.tb.wr h ho⟩
  rw [hl]
  by_cases q : i = j
  · subst q
    rw [List.getElem?_set_self hi] at e
    cases e
    exact hob
  · rw [List.getElem?_set_ne q] at e
    have hj : j < st.length := (List.getElem?_eq_some_iff.mp e).1
    have ne : m.ix j ≠ m.ix i := fun z => q (S.inj j i hj hi z).symm
    have old := S.ob j u e
    cases u with
    | lst xs => obtain ⟨vs, h1, h2⟩ := old; exact ⟨vs, by rw [upd_ne ne]; exact h1, h2.mv kp⟩
    | dct kvs => obtain ⟨vs, h1, h2⟩ := old; exact ⟨vs, by rw [upd_ne ne]; exact h1, RpK.kp kp _ _ h2⟩
    | dtt kvs => obtain ⟨vs, h1, h2⟩ := old; exact ⟨vs, by rw [upd_ne ne]; exact h1, RpT.kp kp _ _ h2⟩
    | lkd es => exact Rp.mv old kp
    | lkl xs => exact FzL.mv old kp
end
/-- a method that writes a list of the store -/
def isLst (st : Sto) (w : Wv) : Bool := match w with
  | .r i => match st[i]? with
    | some (.lst _) => true
    | _ => false
  | _ => false
def eM (g : Wv → List Wv → Sto → Rs Wv) (co : En → Sto → Rs Wv) (cs : En → Sto → Rs (List Wv)) : En → Sto → Rs Wv := fun env st => (co env st).bind fun w st1 => if isLst st1 w = true then (cs env st1).bind fun ws st2 => g w ws st2 else .no
def appW (w : Wv) (ws : List Wv) (st : Sto) : Rs Wv := match w, ws with
  | .r i, [.d y] => match st[i]? with
    | some (.lst xs) => if xs.length < 1000000 then .ok (.d .none) (st.set i (.lst (xs ++ [y]))) else .no
    | _ => .no
  | _, _ => .no
def extW (w : Wv) (ws : List Wv) (st : Sto) : Rs Wv := match w, looks ws st with
  | .r i, some [.list ys] => match st[i]? with
    | some (.lst xs) => if xs.length + ys.length ≤ 1000000 then .ok (.d .none) (st.set i (.lst (xs ++ ys))) else .no
    | _ => .no
  | _, _ => .no
def popW (w : Wv) (ws : List Wv) (st : Sto) : Rs Wv := match w, ws with
  | .r i, [] => match st[i]? with
    | some (.lst xs) => match xs[xs.length - 1]? with
      | some y => .ok (.d y) (st.set i (.lst xs.dropLast))
      | none => .no
    | _ => .no
  | _, _ => .no
def revW (w : Wv) (ws : List Wv) (st : Sto) : Rs Wv := match w, ws with
  | .r i, [] => match st[i]? with
    | some (.lst xs) => .ok (.d .none) (st.set i (.lst xs.reverse))
    | _ => .no
  | _, _ => .no
section
variable {M : Md} {X : Cx} {B : Tb} {k : Nat} {pins : List (Addr × Obj)} {σ : L2.St} {H : Hp} {s : Shared} {m : Mp} {env : En} {st : Sto} {W : WX} {pos apos : Pos} {o e : Expr} {es : List Expr} {co ce : En → Sto → Rs Wv} {cs : En → Sto → Rs (List Wv)} {g : Wv → List Wv → Sto → Rs Wv}
theorem slot_at {v : V} {i : Nat} {xs : List PyData} (S : Sim X.K H m st) (r : RW X.K H m st.length v (.r i)) (e : st[i]? = some (.lst xs)) : ∃ us, v = .ref (m.ix i) ∧ H (m.ix i) = some (.lst us) ∧ RpA X.K H (Off m st.length) us xs := by
  obtain ⟨us, h1, h2⟩ := S.ob i _ e
  exact ⟨us, r.2, h1, h2⟩
theorem isLst_ty {v : V} {w : Wv} (S : Sim X.K H m st) (r : RW X.K H m st.length v w) (h : isLst st w = true) : tyV X.K "list" v H := by
  unfold isLst at h
  split at h
  · split at h
    · rename_i i _ xs e
      obtain ⟨us, rfl, h1, _⟩ := slot_at S r e
      exact .inl ⟨rfl, us, .inl (.inl h1)⟩
    · cases h
  · cases h
theorem te_mut {r : V → List V → Hp → VK → Prop} {Q : VK} (h : tE X W (eM g co cs) σ H Q)
    (q : ∀ (m : Mp) (st : Sto) (w : Wv) (ws : List Wv) (st2 : Sto) (v : V) (vs : List V) (H2 : Hp) (m2 : Mp), Fol m st.length H m2 st2.length H2 → Sim X.K H2 m2 st2 → RW X.K H2 m2 st2.length v w → RWs X.K H2 m2 st2.length vs ws → (g w ws st2).post (okE X m st.length H Q) (okX X W m st.length H σ) → r v vs H2 Q) :
    tBM X.K "list" r (tE X W co) (tA X W cs) σ H Q := by
  obtain ⟨m, env, st, S, R, hp⟩ := h
  unfold eM at hp
  rw [Rs.post_bind] at hp
  refine ⟨m, env, st, S, R, Rs.post_mono hp (fun w st1 q1 v H1 m1 f1 S1 r1 => ?_) fun _ _ q => q⟩
  split at q1
  · rename_i hw
    rw [Rs.post_bind] at q1
    exact ⟨isLst_ty S1 r1 hw, m1, env, st1, S1, R.mv f1, Rs.post_mono q1 (fun ws st2 q2 vs H2 m2 f2 S2 r2 => q m st w ws st2 v vs H2 m2 (f1.trans f2) S2 (r1.mv f2) r2 q2) fun _ _ z => okX.tr f1 z⟩
  · exact q1.elim
theorem te_mut0 {r : V → List V → Hp → VK → Prop} {Q : VK} (h : tE X W (eM g co aNil) σ H Q)
    (q : ∀ (m : Mp) (st : Sto) (w : Wv) (st2 : Sto) (v : V) (H2 : Hp) (m2 : Mp), Fol m st.length H m2 st2.length H2 → Sim X.K H2 m2 st2 → RW X.K H2 m2 st2.length v w → (g w [] st2).post (okE X m st.length H Q) (okX X W m st.length H σ) → r v [] H2 Q) :
    tBM0 X.K "list" r (tE X W co) σ H Q := by
  obtain ⟨m, env, st, S, R, hp⟩ := h
  unfold eM at hp
  rw [Rs.post_bind] at hp
  refine ⟨m, env, st, S, R, Rs.post_mono hp (fun w st1 q1 v H1 m1 f1 S1 r1 => ?_) fun _ _ q => q⟩
  split at q1
  · rename_i hw
    exact ⟨isLst_ty S1 r1 hw, q m st w st1 v H1 m1 f1 S1 r1 q1⟩
  · exact q1.elim
/-- the end of a write -/
theorem wr_end {H2 : Hp} {m2 : Mp} {st0 st2 : Sto} {i : Nat} {us vs : List V} {ds : List PyData} {x : PyData} {z : V} {Q : VK} {E : Xc → Sto → Prop} (f : Fol m st0.length H m2 st2.length H2) (S : Sim X.K H2 m2 st2) (hi : i < st2.length) (h : H2 (m2.ix i) = some (.lst us))
    (ra : RpA X.K H2 (Off m2 st2.length) vs ds) (rz : Rp X.K H2 (Off m2 st2.length) z x) (q : (Rs.ok (Wv.d x) (st2.set i (.lst ds))).post (okE X m st0.length H Q) E) : Q z (upd H2 (m2.ix i) (.lst vs)) := by
  have f2 : Fol m2 st2.length H2 m2 st2.length (upd H2 (m2.ix i) (.lst vs)) := .wr hi h (.inl ⟨_, rfl⟩)
  have hl : (st2.set i (Ob.lst ds)).length = st2.length := List.length_set
  refine q z _ m2 (by rw [hl]; exact f.trans f2) (S.wr hi h (.inl ⟨_, rfl⟩) ⟨vs, upd_same, ra.mv f2.kp⟩) ?_
  rw [hl]
  exact rz.mv f2.kp
theorem de_append (ho : DE X o co) (ha : DA X [e] cs) (hbase : attributeBase o "append" X.env (eval o X.env) = eval o X.env := by rfl)
    (hfew : ((backTo pos (starEach [e] X.env)).all (fun x => !x.1) && (backToKw pos (keywordEach [] X.env)).all (fun x => x.1.isSome)
      && decide ([e].length + ([] : List Keyword).length + (if ([] : List Keyword).isEmpty then 0 else 1) < 30)) = true := by rfl)
    (hline : (apos.endLine == pos.line) = true := by rfl) (hs : starEach [e] X.env = (false, eval e X.env) :: starEach [] X.env := by rfl) : DE X (.Call (.Attribute o "append" apos) [e] [] pos) (eM appW co cs) := by
  refine ⟨fun W tk => PE.imp (pe_bm PySem.F.plainAttrs_list PySem.F.slot_list_append PySem.F.type_list_append mt_append (ho.pe W tk) (ha.pa W tk) hbase hfew hline hs rfl) fun σ H Q h => te_mut h fun m st w ws st2 v vs H2 m2 f2 S2 r2 rs q => ?_⟩
  unfold appW at q
  split at q
  · split at q
    · rename_i i y _ xs ex
      split at q
      · rename_i hl
        obtain ⟨us, rfl, h1, h2⟩ := slot_at S2 r2 ex
        obtain ⟨u, rfl, ru⟩ := rws1 rs
        have hi : i < st2.length := (List.getElem?_eq_some_iff.mp ex).1
        refine ⟨_, us, u, rfl, rfl, h1, by rw [h2.len]; have := line_lim; omega, ?_⟩
        exact wr_end f2 S2 hi h1 (h2.app (.cons ru .nil)) .non q
      · exact q.elim
    · exact q.elim
  · exact q.elim
def rExtX (K : Frg) : V → List V → Hp → VK → Prop := fun x vs H Q => ∃ l b xs zs, x = .ref l ∧ vs = [.ref b] ∧ H l = some (.lst xs) ∧ LsX K H b zs ∧ xs.length + zs.length ≤ sizeLine ∧ Q .non (upd H l (.lst (xs ++ zs)))
theorem mt_extX : MtR X "list.extend" (rExtX X.K) := by
  rintro pins s σ H x vs v us Q I rx rv ⟨l, b, xs, zs, rfl, rfl, hl, hb, hz, q⟩
  cases rx
  obtain ⟨u, rfl, ru⟩ := rv.one
  cases ru
  obtain ⟨_, a1, n1, r1, l1, e1⟩ := I.lstM hl
  obtain ⟨a2, n2, r2, e2, _, l2⟩ := Inv.lsx I hb
  have sz : a1.toArray.size + a2.toArray.size ≤ sizeLine := by rw [List.size_toArray, List.size_toArray]; omega
  have nl : ¬ (!a1.toArray.isEmpty && Builtin.List.listTooLong (a1.toArray.size + a2.toArray.size)) = true := by
    rw [notLongL sz, Bool.and_false]
    exact Bool.false_ne_true
  refine call_meets PySem.F.slot_list_extend ⟨_, e1, rfl⟩ PySem.F.entry_list_extend (PySem.F.args_list_extend_2 _ _) (AutoSeq1.list_extend_list_list_0 l a1.toArray n1 b a2.toArray n2 nl (by rw [List.size_toArray]; omega) (by omega)) ⟨e1, e2, ?_⟩
  exact ⟨.non, _, I.lset (its' := a1 ++ a2) hl e1 (by simp) (r1.append r2) (by rw [List.length_append]; omega), rfl, q⟩
theorem de_extend (ho : DE X o co) (ha : DA X [e] cs) (hbase : attributeBase o "extend" X.env (eval o X.env) = eval o X.env := by rfl)
    (hfew : ((backTo pos (starEach [e] X.env)).all (fun x => !x.1) && (backToKw pos (keywordEach [] X.env)).all (fun x => x.1.isSome)
      && decide ([e].length + ([] : List Keyword).length + (if ([] : List Keyword).isEmpty then 0 else 1) < 30)) = true := by rfl)
    (hline : (apos.endLine == pos.line) = true := by rfl) (hs : starEach [e] X.env = (false, eval e X.env) :: starEach [] X.env := by rfl) : DE X (.Call (.Attribute o "extend" apos) [e] [] pos) (eM extW co cs) := by
  refine ⟨fun W tk => PE.imp (pe_bm PySem.F.plainAttrs_list PySem.F.slot_list_extend PySem.F.type_list_extend mt_extX (ho.pe W tk) (ha.pa W tk) hbase hfew hline hs rfl) fun σ H Q h => te_mut h fun m st w ws st2 v vs H2 m2 f2 S2 r2 rs q => ?_⟩
  unfold extW at q
  split at q
  · rename_i i ys el
    split at q
    · rename_i xs ex
      split at q
      · rename_i hl
        obtain ⟨us, rfl, h1, h2⟩ := slot_at S2 r2 ex
        obtain ⟨u, rfl, ru⟩ := rts1 (looks_rt S2 rs el)
        obtain ⟨b, zs, rfl, hb, rb⟩ := ru.lst
        have hi : i < st2.length := (List.getElem?_eq_some_iff.mp ex).1
        refine ⟨_, _, us, zs, rfl, rfl, h1, hb, by rw [h2.len, rb.len]; have := line_lim; omega, ?_⟩
        exact wr_end f2 S2 hi h1 (h2.app rb) .non q
      · exact q.elim
    · exact q.elim
  · exact q.elim
theorem de_pop (ho : DE X o co) (hbase : attributeBase o "pop" X.env (eval o X.env) = eval o X.env := by rfl) (hline : (apos.endLine == pos.line) = true := by rfl) : DE X (.Call (.Attribute o "pop" apos) [] [] pos) (eM popW co aNil) := by
  refine ⟨fun W tk => PE.imp (pe_bm0 PySem.F.plainAttrs_list PySem.F.slot_list_pop PySem.F.type_list_pop mt_pop (ho.pe W tk) hbase hline) fun σ H Q h => te_mut0 h fun m st w st2 v H2 m2 f2 S2 r2 q => ?_⟩
  unfold popW at q
  split at q
  · rename_i i _
    split at q
    · rename_i xs ex
      split at q
      · rename_i y ey
        obtain ⟨us, rfl, h1, h2⟩ := slot_at S2 r2 ex
        obtain ⟨u, hu, ru⟩ := h2.get ey
        have hi : i < st2.length := (List.getElem?_eq_some_iff.mp ex).1
        refine ⟨_, us, u, rfl, rfl, h1, by rw [h2.len]; exact hu, ?_⟩
        refine wr_end f2 S2 hi h1 ?_ ru q
        rw [List.dropLast_eq_take, List.dropLast_eq_take, h2.len]
        exact h2.take _
      · exact q.elim
    · exact q.elim
  · exact q.elim
theorem de_reverse (ho : DE X o co) (hbase : attributeBase o "reverse" X.env (eval o X.env) = eval o X.env := by rfl) (hline : (apos.endLine == pos.line) = true := by rfl) : DE X (.Call (.Attribute o "reverse" apos) [] [] pos) (eM revW co aNil) := by
  refine ⟨fun W tk => PE.imp (pe_bm0 PySem.F.plainAttrs_list PySem.F.slot_list_reverse PySem.F.type_list_reverse mt_reverse (ho.pe W tk) hbase hline) fun σ H Q h => te_mut0 h fun m st w st2 v H2 m2 f2 S2 r2 q => ?_⟩
  unfold revW at q
  split at q
  · rename_i i _
    split at q
    · rename_i xs ex
      obtain ⟨us, rfl, h1, h2⟩ := slot_at S2 r2 ex
      have hi : i < st2.length := (List.getElem?_eq_some_iff.mp ex).1
      exact ⟨_, us, rfl, rfl, h1, wr_end f2 S2 hi h1 h2.rev .non q⟩
    · exact q.elim
  · exact q.elim

/-! ### x[i] = e -/
def dPut (es : List (PyData × PyData)) (k : Key) (c d : PyData) : List (PyData × PyData) := if hasKey es k = true then es.map (fun e => if keyD e.1 = some k then (e.1, d) else e) else es ++ [(c, d)]
theorem rpk_map {Z : Addr → Prop} {H : Hp} {v : V} {d : PyData} {q : Key} (r : Rp X.K H Z v d) : ∀ {ks : List (Key × V)} {es : List (PyData × PyData)}, RpK X.K H Z ks es →
    RpK X.K H Z (ks.map fun kv => if kv.1 = q then (kv.1, v) else kv) (es.map fun e => if keyD e.1 = some q then (e.1, d) else e)
  | [], _, h => by cases h; exact .nil
  | (k0, v0) :: ks, _, h => by
    cases h with
    | cons h0 h1 h2 =>
      simp only [List.map_cons]
      by_cases e : k0 = q
      · rw [if_pos e, if_pos (by rw [h0, e])]
        exact .cons h0 r (rpk_map r h2)
      · rw [if_neg e, if_neg (by rw [h0]; exact fun z => e (Option.some.inj z))]
        exact .cons h0 h1 (rpk_map r h2)
theorem rpk_app {Z : Addr → Prop} {H : Hp} {v : V} {c d : PyData} {q : Key} (e : keyD c = some q) (r : Rp X.K H Z v d) : ∀ {ks : List (Key × V)} {es : List (PyData × PyData)}, RpK X.K H Z ks es → RpK X.K H Z (ks ++ [(q, v)]) (es ++ [(c, d)])
  | [], _, h => by cases h; exact .cons e r .nil
  | (k0, v0) :: ks, _, h => by cases h with | cons h0 h1 h2 => exact .cons h0 h1 (rpk_app e r h2)
theorem rpk_put {Z : Addr → Prop} {H : Hp} {v : V} {c d : PyData} {q : Key} {ks : List (Key × V)} {es : List (PyData × PyData)} (e : keyD c = some q) (r : Rp X.K H Z v d) (h : RpK X.K H Z ks es) : RpK X.K H Z (L2.putK ks q v) (dPut es q c d) := by
  unfold L2.putK dPut
  rw [valV_any, valV_has q h]
  split
  · exact rpk_map r h
  · exact rpk_app e r h
theorem rt_key {Z : Addr → Prop} {H : Hp} {v : V} {c : PyData} {q : Key} (h : RT X.K H Z v c) (e : keyD c = some q) : v = kV q := by
  unfold keyD at e
  split at e
  · cases e; exact h.int
  · cases e; exact h.str
  · cases e
def dPutT (es : List (PyData × PyData)) (k : List Key) (c d : PyData) : List (PyData × PyData) := if (dLookT es k).isSome = true then es.map (fun e => if tkD e.1 = some k then (e.1, d) else e) else es ++ [(c, d)]
theorem rpt_map {Z : Addr → Prop} {H : Hp} {v : V} {d : PyData} {q : List Key} (r : Rp X.K H Z v d) : ∀ {ks : List (List Key × V)} {es : List (PyData × PyData)}, RpT X.K H Z ks es →
    RpT X.K H Z (ks.map fun kv => if kv.1 = q then (kv.1, v) else kv) (es.map fun e => if tkD e.1 = some q then (e.1, d) else e)
  | [], _, h => by cases h; exact .nil
  | (k0, v0) :: ks, _, h => by
    cases h with
    | cons h0 h1 h2 =>
      simp only [List.map_cons]
      by_cases e : k0 = q
      · rw [if_pos e, if_pos (by rw [h0, e])]
        exact .cons h0 r (rpt_map r h2)
      · rw [if_neg e, if_neg (by rw [h0]; exact fun z => e (Option.some.inj z))]
        exact .cons h0 h1 (rpt_map r h2)
theorem rpt_app {Z : Addr → Prop} {H : Hp} {v : V} {c d : PyData} {q : List Key} (e : tkD c = some q) (r : Rp X.K H Z v d) : ∀ {ks : List (List Key × V)} {es : List (PyData × PyData)}, RpT X.K H Z ks es → RpT X.K H Z (ks ++ [(q, v)]) (es ++ [(c, d)])
  | [], _, h => by cases h; exact .cons e r .nil
  | (k0, v0) :: ks, _, h => by cases h with | cons h0 h1 h2 => exact .cons h0 h1 (rpt_app e r h2)
theorem rpt_put {Z : Addr → Prop} {H : Hp} {v : V} {c d : PyData} {q : List Key} {ks : List (List Key × V)} {es : List (PyData × PyData)} (e : tkD c = some q) (r : Rp X.K H Z v d) (h : RpT X.K H Z ks es) : RpT X.K H Z (L2.putK ks q v) (dPutT es q c d) := by
  unfold L2.putK dPutT
  rw [valV_any, valV_hasT q h]
  split
  · exact rpt_map r h
  · exact rpt_app e r h
/-- a key's tuple that the top has not written -/
theorem rt_tkey {Z : Addr → Prop} {H : Hp} {v : V} {c : PyData} {q : List Key} (h : RT X.K H Z v c) (e : tkD c = some q) (hw : c ∉ Wtp.W) : ∃ b, v = .ref b ∧ H b = some (.tup (q.map kV)) := by
  cases c with
  | tuple ds =>
    obtain ⟨b, vs, rfl, h1, h2⟩ := h.tupT
    obtain ⟨b2, e2, h3⟩ := tkD_v h e
    cases e2
    rcases h1 with h1 | h1
    · refine ⟨b, rfl, ?_⟩
      have : ∀ {vs : List V} {ds : List PyData} {k : List Key}, RpA X.K H Z vs ds → keysD ds = some k → vs = k.map kV := by
        intro vs ds
        induction ds generalizing vs with
        | nil => intro k r e; cases e; cases r; rfl
        | cons d ds ih =>
          intro k r e
          unfold keysD at e
          split at e
          · rename_i k0 ks e1 e2
            cases e
            cases r with
            | cons r1 r2 => rw [List.map_cons, ih r2 e2, keyD_v (Z := Z) (.inl r1) e1]
          · cases e
      rw [this h2 (show keysD ds = some q from e)] at h1
      exact h1
    · exact absurd h1.2 hw
  | _ => cases e
open Classical in
noncomputable def setW (w j : Wv) (y : PyData) (st : Sto) : Option Sto := match w with
  | .r n => match st[n]?, look st j with
    | some (.lst xs), some (.int t) => (ixN xs.length t).map fun q => st.set n (.lst (xs.set q y))
    | some (.dct es), some c => match keyD c with
      | some q => if es.length < 1000000 then some (st.set n (.dct (dPut es q c y))) else none
      | none => none
    | some (.dtt es), some c => match tkD c with
      | some q => if es.length < 1000000 ∧ c ∉ Wtp.W then some (st.set n (.dtt (dPutT es q c y))) else none
      | none => none
    | _, _ => none
  | _ => none
noncomputable def sIx (co ci ce : En → Sto → Rs Wv) : En → Sto → SR := fun env st => (ce env st).sb fun x st1 => (co env st1).sb fun w st2 => (ci env st2).sb fun j st3 => match x with
  | .d y => match setW w j y st3 with
    | some st4 => .nx env st4
    | none => .no
  | _ => .no
def rSetB : TSet := fun o i v H Q => rSetL o i v H Q ∨ rSetD o i v H Q
theorem set_both (hu : X.A.units + 1 < cLine) : PSet X rSetB := by
  intro pins s σ H o i v ov iv u Q I ro ri rv h
  rcases h with h | h
  · exact set_list pins s σ H o i v ov iv u Q I ro ri rv h
  · exact set_dict hu pins s σ H o i v ov iv u Q I ro ri rv h
theorem setW_ok {D : Ends} {w j : Wv} {y : PyData} {st0 st4 : Sto} {ov iv v : V} {R : Hp → Prop} (S : Sim X.K H m st) (rw' : RW X.K H m st.length ov w) (rj : RW X.K H m st.length iv j) (ry : Rp X.K H (Off m st.length) v y) (e : setW w j y st = some st4)
    (q : ∀ H', Fol m st.length H m st4.length H' → Sim X.K H' m st4 → R H') : rSetB ov iv v H R := by
  unfold setW at e
  split at e
  · rename_i n
    split at e
    · rename_i xs t e1 e2
      have hi : n < st.length := (List.getElem?_eq_some_iff.mp e1).1
      obtain ⟨us, h1, h2⟩ := S.ob n _ e1
      cases e3 : ixN xs.length t with
      | none => rw [e3] at e; cases e
      | some z =>
        rw [e3] at e
        cases e
        have f2 : Fol m st.length H m st.length (upd H (m.ix n) (.lst (us.set z v))) := .wr hi h1 (.inl ⟨_, rfl⟩)
        have hl : (st.set n (Ob.lst (xs.set z y))).length = st.length := List.length_set
        refine .inl ⟨m.ix n, us, t, z, rw'.2, (look_rt S rj e2).int, h1, by rw [h2.len]; exact e3, ?_⟩
        exact q _ (by rw [hl]; exact f2) (S.wr hi h1 (.inl ⟨_, rfl⟩) ⟨_, upd_same, (RpA.set ry z h2).mv f2.kp⟩)
    · rename_i es c e1 e2
      have hi : n < st.length := (List.getElem?_eq_some_iff.mp e1).1
      obtain ⟨ks, h1, h2⟩ := S.ob n _ e1
      split at e
      · rename_i z ez
        split at e
        · rename_i hlt
          cases e
          have f2 : Fol m st.length H m st.length (upd H (m.ix n) (.dK (L2.putK ks z v))) := .wr hi h1 (.inr (.inl ⟨_, rfl⟩))
          have hl : (st.set n (Ob.dct (dPut es z c y))).length = st.length := List.length_set
          refine .inr ⟨m.ix n, _, rw'.2, by rw [rt_key (look_rt S rj e2) ez]; exact .k h1 (by rw [h2.len]; have := line_lim; omega), ?_⟩
          exact q _ (by rw [hl]; exact f2) (S.wr hi h1 (.inr (.inl ⟨_, rfl⟩)) ⟨_, upd_same, RpK.kp f2.kp _ _ (rpk_put ez ry h2)⟩)
        · cases e
      · cases e
    · rename_i es c e1 e2
      have hi : n < st.length := (List.getElem?_eq_some_iff.mp e1).1
      obtain ⟨ks, h1, h2⟩ := S.ob n _ e1
      split at e
      · rename_i z ez
        split at e
        · rename_i hlt
          cases e
          have f2 : Fol m st.length H m st.length (upd H (m.ix n) (.dT (L2.putK ks z v))) := .wr hi h1 (.inr (.inr ⟨_, rfl⟩))
          have hl : (st.set n (Ob.dtt (dPutT es z c y))).length = st.length := List.length_set
          obtain ⟨b, rfl, hb⟩ := rt_tkey (look_rt S rj e2) ez hlt.2
          refine .inr ⟨m.ix n, _, rw'.2, .t h1 hb (by rw [h2.len]; have := line_lim; omega), ?_⟩
          exact q _ (by rw [hl]; exact f2) (S.wr hi h1 (.inr (.inr ⟨_, rfl⟩)) ⟨_, upd_same, RpT.kp f2.kp _ _ (rpt_put ez ry h2)⟩)
        · cases e
      · cases e
    · cases e
  · cases e
theorem ds_setix (c : Cxt M X B k) {oe ie : Expr} {ci : En → Sto → Rs Wv} {p2 : Pos} (ho : DE X oe co) (hi : DE X ie ci) (he : DE X e ce) (hs : swapsWithSole [.Subscript oe ie p2] e pos.line X.env = pure false := by rfl) (hw : swappedStores [.Subscript oe ie p2] e X.env = pure none := by rfl)
    (h1 : (assignEach [.Subscript oe ie p2] X.env).map (·.2) = [assign (.Subscript oe ie p2) X.env] := by rfl)
    (ha : ∀ v, assign (.Subscript oe ie p2) X.env v = (do
      let ov ← holding [v] (eval oe X.env)
      let iv ← holding [v, ov] (eval ie X.env)
      standAt p2
      holding [v, ov, iv] (setItem ov iv v)
      release [v, ov, iv] []) := by intro _; rfl) : DS X (.Assign [.Subscript oe ie p2] e pos) (sIx co ci ce) := by
  refine ⟨fun W tk => PS.imp (ps_asg (he.pe W tk) (pg_sub (ho.pe W tk) (hi.pe W tk) (set_both (room_eq c.roomH (show 1 ≤ 60 by decide))) ha) hs hw h1) fun D σ H ⟨m, env, st, S, R, hp⟩ => ?_⟩
  unfold sIx at hp
  rw [Rs.post_sb] at hp
  refine ⟨m, env, st, S, R, Rs.post_mono hp (fun x st1 q v H1 m1 f1 S1 r1 => ?_) fun _ _ h => h.x⟩
  rw [Rs.post_sb] at q
  refine ⟨m1, env, st1, S1, R.mv f1, Rs.post_mono q (fun w st2 q ov H2 m2 f2 S2 r2 => ?_) fun _ _ h => (okXs.tr f1 h).x⟩
  rw [Rs.post_sb] at q
  refine ⟨m2, env, st2, S2, (R.mv f1).mv f2, Rs.post_mono q (fun j st3 q iv H3 m3 f3 S3 r3 => ?_) fun _ _ h => (okXs.tr (f1.trans f2) h).x⟩
  split at q
  · split at q
    · rename_i y st4 e4
      exact setW_ok (D := D) (st0 := st) S3 (r2.mv f3) r3 ((r1.mv f2).mv f3) e4 fun H' f4 S4 => q σ H' m3 (((f1.trans f2).trans f3).trans f4) S4 ((((R.mv f1).mv f2).mv f3).mv f4)
    · exact q.elim
  · exact q.elim
/-- x[a, b] = e: the key is a new tuple -/
def setWT (w : Wv) (c y : PyData) (st : Sto) : Option Sto := match w with
  | .r n => match st[n]? with
    | some (.dtt es) => match tkD c with
      | some q => if es.length < 1000000 then some (st.set n (.dtt (dPutT es q c y))) else none
      | none => none
    | _ => none
  | _ => none
def sIxT (co : En → Sto → Rs Wv) (cs : En → Sto → Rs (List Wv)) (ce : En → Sto → Rs Wv) : En → Sto → SR := fun env st => (ce env st).sb fun x st1 => (co env st1).sb fun w st2 => (cs env st2).sb fun js st3 => match x with
  | .d y => match allD js with
    | some ds => if ds.length ≤ 1000000 then (match setWT w (.tuple ds) y st3 with
      | some st4 => .nx env st4
      | none => .no) else .no
    | none => .no
  | _ => .no
theorem keys_v {X : Cx} {H : Hp} {Z : Addr → Prop} : ∀ {vs : List V} {ds : List PyData} {k : List Key}, RpA X.K H Z vs ds → keysD ds = some k → vs = k.map kV
  | _, _, _, .nil, e => by cases e; rfl
  | _, _, _, .cons r1 r2, e => by
    unfold keysD at e
    split at e
    · rename_i k0 ks e1 e2
      cases e
      rw [List.map_cons, keys_v r2 e2, keyD_v (X := X) (Z := Z) (.inl r1) e1]
    · cases e
theorem ds_setixT (c : Cxt M X B k) {oe : Expr} {es : List Expr} {cs : En → Sto → Rs (List Wv)} {p2 p4 : Pos} {jj : Nat} (ho : DE X oe co) (hi : DA X es cs) (he : DE X e ce) (hs : swapsWithSole [.Subscript oe (.Tuple es jj p4) p2] e pos.line X.env = pure false := by rfl) (hw : swappedStores [.Subscript oe (.Tuple es jj p4) p2] e X.env = pure none := by rfl)
    (h1 : (assignEach [.Subscript oe (.Tuple es jj p4) p2] X.env).map (·.2) = [assign (.Subscript oe (.Tuple es jj p4) p2) X.env] := by rfl)
    (ha : ∀ v, assign (.Subscript oe (.Tuple es jj p4) p2) X.env v = (do
      let ov ← holding [v] (eval oe X.env)
      let iv ← holding [v, ov] (eval (.Tuple es jj p4) X.env)
      standAt p2
      holding [v, ov, iv] (setItem ov iv v)
      release [v, ov, iv] []) := by intro _; rfl) : DS X (.Assign [.Subscript oe (.Tuple es jj p4) p2] e pos) (sIxT co cs ce) := by
  refine ⟨fun W tk => PS.imp (ps_asg (he.pe W tk) (pg_sub (ho.pe W tk) (pe_tup (hi.pa W tk)) (set_both (room_eq c.roomH (show 1 ≤ 60 by decide))) ha) hs hw h1) fun D σ H ⟨m, env, st, S, R, hp⟩ => ?_⟩
  unfold sIxT at hp
  rw [Rs.post_sb] at hp
  refine ⟨m, env, st, S, R, Rs.post_mono hp (fun x st1 q v H1 m1 f1 S1 r1 => ?_) fun _ _ h => h.x⟩
  rw [Rs.post_sb] at q
  refine ⟨m1, env, st1, S1, R.mv f1, Rs.post_mono q (fun w st2 q ov H2 m2 f2 S2 r2 => ?_) fun _ _ h => (okXs.tr f1 h).x⟩
  rw [Rs.post_sb] at q
  refine ⟨m2, env, st2, S2, (R.mv f1).mv f2, Rs.post_mono q (fun js st3 q iv H3 m3 f3 S3 r3 => ?_) fun _ _ h => (okXs.tr (f1.trans f2) h).x⟩
  cases x with
  | r i => exact q.elim
  | x a c d => exact q.elim
  | d y =>
    dsimp only at q
    split at q
    rotate_left
    · exact q.elim
    rename_i ds e1
    split at q
    · rename_i hl
      split at q
      · rename_i st4 e4
        have ra := allD_rp r3 e1
        refine ⟨by rw [ra.len]; exact Nat.le_trans hl line_lim, fun p hn => ?_⟩
        have g := grow_upd (o := .tup iv) hn
        have f4 : Fol m3 st3.length H3 m3 st3.length (upd H3 p (.tup iv)) := .same g
        have S4 := S3.grow g
        unfold setWT at e4
        split at e4
        · rename_i n
          split at e4
          · rename_i es0 e5
            split at e4
            · rename_i z ez
              split at e4
              · rename_i hlt
                cases e4
                have hn3 : n < st3.length := (List.getElem?_eq_some_iff.mp e5).1
                obtain ⟨ks, h1, h2⟩ := S4.ob n _ e5
                have rw' := (r2.mv f3).mv f4
                have ry : Rp X.K (upd H3 p (.tup iv)) (Off m3 st3.length) v y := ((r1.mv f2).mv f3).mv f4
                have f5 : Fol m3 st3.length (upd H3 p (.tup iv)) m3 st3.length (upd (upd H3 p (.tup iv)) (m3.ix n) (.dT (L2.putK ks z v))) := .wr hn3 h1 (.inr (.inr ⟨_, rfl⟩))
                have hl2 : (st3.set n (Ob.dtt (dPutT es0 z (.tuple ds) y))).length = st3.length := List.length_set
                have hb : (upd H3 p (.tup iv)) p = some (.tup (z.map kV)) := by rw [upd_same, keys_v ra ez]
                refine .inr ⟨m3.ix n, _, rw'.2, .t h1 hb (by rw [h2.len]; have := line_lim; omega), ?_⟩
                have S5 : Sim X.K (upd (upd H3 p (.tup iv)) (m3.ix n) (.dT (L2.putK ks z v))) m3 (st3.set n (Ob.dtt (dPutT es0 z (.tuple ds) y))) := S4.wr hn3 h1 (.inr (.inr ⟨_, rfl⟩)) ⟨_, upd_same, RpT.kp f5.kp _ _ (rpt_put ez ry h2)⟩
                exact q σ _ m3 (by rw [hl2]; exact (((f1.trans f2).trans f3).trans f4).trans f5) S5 (by rw [hl2]; exact ((((R.mv f1).mv f2).mv f3).mv f4).mv f5)
              · cases e4
            · cases e4
          · cases e4
        · cases e4
      · exact q.elim
    · exact q.elim
end
end

section
variable [Wtp] [Tbl]

/-! ## max, min of two ints; t[::-1]; index in a written tuple -/
def max2F : List PyData → Option PyData
  | [.int i, .int j] => some (.int (if j > i then j else i))
  | _ => none
def min2F : List PyData → Option PyData
  | [.int i, .int j] => some (.int (if j < i then j else i))
  | _ => none
section
variable {X : Cx}
theorem c_max2 (hc : X.calm = true) : CallR X (.builtin "max") (rN X.K max2F) := by
  intro pins s σ H xs us Q I r ⟨Z, ds, e, hz, hd, hf, ho⟩
  unfold max2F at hf
  split at hf
  · cases hf
    obtain ⟨v, w, rfl, h1, h2⟩ := rts2 hd
    cases h1.int
    cases h2.int
    exact call_max2 hc pins s σ H _ us Q I r ⟨_, _, rfl, rout_here ho (.int _)⟩
  · cases hf
theorem c_min2 (hc : X.calm = true) : CallR X (.builtin "min") (rN X.K min2F) := by
  intro pins s σ H xs us Q I r ⟨Z, ds, e, hz, hd, hf, ho⟩
  unfold min2F at hf
  split at hf
  · cases hf
    obtain ⟨v, w, rfl, h1, h2⟩ := rts2 hd
    cases h1.int
    cases h2.int
    exact call_min2 hc pins s σ H _ us Q I r ⟨_, _, rfl, rout_here ho (.int _)⟩
  · cases hf
end
def revD : PyData → Option PyData
  | .list xs => some (.list xs.reverse)
  | .tuple xs => some (.tuple xs.reverse)
  | _ => none
theorem filterMap_all {α β : Type} {f : α → Option β} {g : α → β} : ∀ {l : List α}, (∀ x ∈ l, f x = some (g x)) → l.filterMap f = l.map g
  | [], _ => rfl
  | x :: l, h => by rw [List.filterMap_cons, h x (by simp), List.map_cons, filterMap_all fun y hy => h y (by simp [hy])]
theorem picks_rev (xs : Array Value) : ((List.range xs.size).filterMap fun (k : Nat) => xs[(((xs.size : Int) - 1) + (k : Int) * (-1)).toNat]?) = xs.toList.reverse := by
  rw [filterMap_all (g := fun k => xs.toList.reverse.getD k .none) fun k hk => ?_]
  · refine List.ext_getElem? fun i => ?_
    rw [List.getElem?_map]
    by_cases h : i < xs.size
    · have h2 : i < xs.toList.reverse.length := by simpa using h
      rw [List.getElem?_range h, Option.map_some, List.getD_eq_getElem?_getD, List.getElem?_eq_getElem h2]
      rfl
    · rw [List.getElem?_eq_none (show (List.range xs.size).length ≤ i by simpa using h), List.getElem?_eq_none (by simpa using h)]
      rfl
  · have hk : k < xs.size := List.mem_range.mp hk
    have e2 : (((xs.size : Int) - 1) + (k : Int) * (-1)).toNat = xs.size - 1 - k := by omega
    rw [e2, List.getD_eq_getElem?_getD, List.getElem?_reverse (by simpa using hk), Array.length_toList, Array.getElem?_toList, Array.getElem?_eq_getElem (show xs.size - 1 - k < xs.size by omega)]
    rfl
section
variable {prog : Program} {w : World} {A : Around} {E : Value → Shared → Prop} {s : Shared}
theorem applied_down {sl : Addr} {vs : Value} {n : Nat} {Q : Int × Int × Nat → Shared → Prop} (hs : s.heap.IsSliceOf sl .none .none vs) (ps : IsPart vs (some (-1))) (h : Q ((n : Int) - 1, -1, n) s) : wpAny (model prog w) A (Builtin.Slice.sliceApplied (.ref sl) (pure (n : Int))) Q E s := by
  obtain ⟨ob, hob, _, hd⟩ := id hs
  unfold Builtin.Slice.sliceApplied Builtin.Slice.sliceFields
  refine wpAny_bind (wpAny_bind (wpAny_field hob hd (x := .none) rfl (wpAny_bind (wpAny_field hob hd (x := .none) rfl (wpAny_bind (wpAny_field hob hd (x := vs) rfl (wpAny_pure ?_)))))))
  refine wpAny_bind (HT.slicePart_ ps ?_)
  show wpAny _ _ (if ((-1 : Int) == 0) = true then _ else _) _ _ s
  rw [if_neg (by decide)]
  refine wpAny_bind (slicePart_none (wpAny_bind (slicePart_none (wpAny_bind (wpAny_pure ?_)))))
  have ea : Builtin.Slice.sliceAdjust none none (-1) (n : Int) = ((n : Int) - 1, -1) := rfl
  have ep : Builtin.Slice.slicePlaces ((n : Int) - 1) (-1) (-1) = n := by
    unfold Builtin.Slice.slicePlaces
    rw [if_neg (by decide)]
    split
    · have : ((n : Int) - 1 - -1 - 1) / -(-1) + 1 = n := by
        rw [Int.neg_neg, Int.ediv_one]; omega
      rw [this]; rfl
    · omega
  show wpAny _ _ (match Builtin.Slice.sliceAdjust none none (-1) (n : Int) with | (lo, hi) => pure (lo, (-1 : Int), Builtin.Slice.slicePlaces lo hi (-1))) _ _ s
  rw [ea]
  show wpAny _ _ (pure ((n : Int) - 1, (-1 : Int), Builtin.Slice.slicePlaces ((n : Int) - 1) (-1) (-1))) _ _ s
  rw [ep]
  exact wpAny_pure h
theorem getitem_down {t sl : Addr} {items : Array Value} {vs : Value} {Q : Value → Shared → Prop} (ht : IsTup s.heap t items) (hs : s.heap.IsSliceOf sl .none .none vs) (ps : IsPart vs (some (-1))) (hz : items.size ≤ sizeLine)
    (h : Q (.ref s.heap.objs.size) { s with heap := s.heap.push { cls := .type "tuple", data := .seq items.toList.reverse.toArray } }) : wpAny (model prog w) A (getItem (.ref t) (.ref sl)) Q E s := by
  obtain ⟨ob, hob, hcs, _⟩ := id hs
  have hT : s.TypeIs (.ref sl) "slice" := ⟨ob, hob, hcs⟩
  unfold getItem
  try with_reducible refine wpAny_holding ?_
  first | refine wpAny_bind (wpAny_pure ?_) | skip
  refine wpAny_bind (wpAny_sequenceKey ht.typeIs (by decide) ?_)
  refine wpAny_bind (wpAny_callSpecial?_slot (name := Str.ofString "__getitem__") ht.typeIs PyProof.Rows.slot_tuple_getitem (wpAny_call_entry PyProof.Rows.slot_tuple_getitem ht.typeIs entry_tuple_getitem ?_ (args_tuple_getitem _ _)))
  show wpAny _ _ (Builtin.Tuple.tupleItemsOf (.ref t) >>= _) _ _ s
  refine wpAny_bind (PyProof.Rows.tupleItemsOf_ ht (wpAny_bind (wpAny_typeOf hT ?_)))
  rw [if_pos (by decide)]
  refine wpAny_bind (applied_down hs ps ?_)
  have no : ¬ (((((items.size : Int) - 1) == 0 && (-1 : Int) == 1 && items.size == items.size)) = true) := by
    rw [show ((-1 : Int) == 1) = false from rfl]; simp
  show wpAny _ _ (if ((((items.size : Int) - 1) == 0 && (-1 : Int) == 1 && items.size == items.size)) = true then _ else _) _ _ s
  rw [if_neg no, picks_rev]
  have ok : sizeOk (.seq items.toList.reverse.toArray) := by
    show items.toList.reverse.toArray.size ≤ sizeLine
    simpa using hz
  first
    | exact wpAny_bind (m := Builtin.Tuple.tupleExact _) (wpAny_newObj_type (wpAny_pure ⟨_, rfl, wpAny_pure h⟩) ok)
    | exact wpAny_bind (m := Builtin.Tuple.tupleExact _) (wpAny_newObj_type (wpAny_bind (wpAny_pure (wpAny_pure ⟨_, rfl, wpAny_pure h⟩))) ok)
    | exact wpAny_bind (wpAny_bind (m := Builtin.Tuple.tupleExact _) (wpAny_newObj_type (wpAny_pure (wpAny_pure ⟨_, rfl, wpAny_pure h⟩)) ok))
    | exact wpAny_bind (wpAny_bind (m := Builtin.Tuple.tupleExact _) (wpAny_newObj_type (wpAny_pure ⟨_, rfl, wpAny_pure h⟩) ok))
end
section
variable {M : Md} {X : Cx} {B : Tb} {k : Nat} {σ : L2.St} {H : Hp} {W : WX} {c : En → Sto → Rs Wv}
def rRev (K : Frg) : V → Hp → VK → Prop := fun x H Q => ∃ a xs, x = .ref a ∧ ((LsX K H a xs ∧ ∀ p, H p = none → Q (.ref p) (upd H p (.lst xs.reverse))) ∨ (SqT K H a xs ∧ ∀ p, H p = none → Q (.ref p) (upd H p (.tup xs.reverse))))
theorem pe_rev {e : Expr} {te : TE} {j : Nat} {p1 p2 p3 pos : Pos} (he : PE X e te) : PE X (.Subscript e (.Slice none none (some (.UnaryOp .USub (.Constant (.int 1) j p1) p2)) p3) pos) (tUn (rRev X.K) te) := by
  refine ⟨fun pins s σ H Q I h => Subscript_ (thn (he.run pins s σ H _ I h) fun v s1 ⟨x, H1, I1, r1, a, xs, ex, q⟩ => ?_)⟩
  subst ex
  cases r1
  have down : PO X (some (.UnaryOp .USub (.Constant (.int 1) j p1) p2)) (tPart (tUn (rU fun i => .int (-i)) (tC (.int 1)))) := po_some (pe_un un_neg pe_int)
  refine wpAny_Slice (thn (po_none.run pins s1 σ H1 (fun o H2 => o = none ∧ H1 = H2) I1 ⟨rfl, rfl⟩) fun vl s2 ⟨l, H2, I2, pl, el, e2⟩ => ?_)
  subst el e2
  refine thn (po_none.run pins s2 σ H1 (fun o H3 => o = none ∧ H1 = H3) I2 ⟨rfl, rfl⟩) fun vu s3 ⟨u, H3, I3, pu, eu, e3⟩ => ?_
  subst eu e3
  refine thn (down.run pins s3 σ H1 (fun o H4 => o = some (-1) ∧ H1 = H4) I3 ⟨1, rfl, -1, rfl, rfl, rfl⟩) fun vs s4 ⟨o, H4, I4, ps, eo, e4⟩ => ?_
  subst eo e4
  have I5 : Inv X pins σ H1 { s4 with heap := s4.heap.push { cls := .type "slice", data := .fields #[vl, vu, vs] } } := I4.kept (t' := s4.toks) fun b ob q => Heap.get?_push_of_some _ q
  show wpAny (model X.prog X.w) X.A (subscriptTail e (.Slice none none (some (.UnaryOp .USub (.Constant (.int 1) j p1) p2)) p3) (.ref a) (.ref s4.heap.objs.size)) (EP X pins σ Q) X.xe { s4 with heap := s4.heap.push { cls := .type "slice", data := .fields #[vl, vu, vs] } }
  rcases q with ⟨hl, q⟩ | ⟨ht, q⟩
  · obtain ⟨its, r, pt, hz⟩ := I5.list hl.sq
    have hlen := r.length
    refine tail_any (ops := [.ref a, .ref s4.heap.objs.size]) pt.isList.typeIs (PySem.slot_list_getitem.lookup) ?_ (by with_unfolding_all rfl)
    refine wpAny_getItem_list_slice pt.isList (Heap.IsSliceOf.new _ vl vu vs) pl pu ps (by decide) ?_ (by rw [List.size_toArray]; omega)
    rw [PySem.W.krv_pick]
    exact ⟨.ref _, _, I5.laid (t' := s4.toks) (o := .lst xs.reverse) (fun b ob q => Heap.get?_push_of_some _ q) (Nat.le_refl _) ⟨by rw [List.length_reverse]; exact hz, _, 0, r.reverse, Heap.get?_push_size _ rfl⟩, rfl, q _ (I5.hok.fresh (Nat.le_refl _))⟩
  · obtain ⟨its, r, pt, hz⟩ := I5.tuple ht
    have hlen := r.length
    cases pl
    cases pu
    refine tail_any (ops := [.ref a, .ref s4.heap.objs.size]) pt.typeIs (PyProof.Rows.slot_tuple_getitem.lookup) ?_ (by with_unfolding_all rfl)
    refine getitem_down pt (Heap.IsSliceOf.new _ _ _ vs) ps (by rw [List.size_toArray]; omega) ?_
    exact ⟨.ref _, _, I5.laid (t' := s4.toks) (o := .tup xs.reverse) (fun b ob q => Heap.get?_push_of_some _ q) (Nat.le_refl _) ⟨by rw [List.length_reverse]; exact hz, _, r.reverse, ⟨_, Heap.get?_push_size _ rfl, rfl, _, rfl⟩⟩, rfl, q _ (I5.hok.fresh (Nat.le_refl _))⟩
theorem de_rev {e : Expr} {j : Nat} {p1 p2 p3 pos : Pos} (he : DE X e c) : DE X (.Subscript e (.Slice none none (some (.UnaryOp .USub (.Constant (.int 1) j p1) p2)) p3) pos) (eOp1 revD c) := by
  refine ⟨fun W tk => PE.imp (pe_rev (he.pe W tk)) fun σ H Q h => ?_⟩
  obtain ⟨m, env, st, S, R, hp⟩ := te_one revD h
  refine ⟨m, env, st, S, R, Rs.post_mono hp (fun w st1 q v H1 m1 f1 S1 r1 => ?_) fun _ _ q => q⟩
  obtain ⟨Z, d, r, hz, hd, hf, ho⟩ := q v H1 m1 f1 S1 r1
  unfold revD at hf
  split at hf
  · cases hf
    obtain ⟨a, vs, rfl, h1, h2⟩ := hd.lst
    exact ⟨a, vs, rfl, .inl ⟨h1, rout_lst hz ho h2.rev⟩⟩
  · cases hf
    obtain ⟨a, vs, rfl, h1, h2⟩ := hd.tup
    exact ⟨a, vs, rfl, .inr ⟨h1, rout_tup ho h2.rev⟩⟩
  · cases hf

/-! ### x.index(e), x a written tuple of texts -/
def idxS (ys : List Str) (z : Str) : Option Nat := ys.findIdx? fun y => decide (y = z)
def eGix (ys : List Str) (cs : En → Sto → Rs (List Wv)) : En → Sto → Rs Wv := fun env st => (cs env st).bind fun ws st1 => match ws with
  | [.d (.str z)] => match idxS ys z with
    | some i => .ok (.d (.int (i : Nat))) st1
    | none => .no
  | _ => .no
theorem de_gindex {x : Str} {p : Addr} {ys : List Str} {cs : En → Sto → Rs (List Wv)} {e : Expr} {p1 apos pos : Pos} (cx : Cxt M X B k) (j : Nat) (hg : B.gs[j]? = some x) (hm : M.mg x = some (.ref p)) (hq : ∀ H, SqT M.K H p (ys.map V.str))
    (ht : ∃ o, M.K.lookup p = some o ∧ o.cls = .type "tuple" ∧ o.dict = none) (ha : DA X [e] cs) (hd : (x == ("__debug__" : Str)) = false := by decide) (hbase : attributeBase (.Name x p1) "index" X.env (eval (.Name x p1) X.env) = eval (.Name x p1) X.env := by rfl)
    (hfew : ((backTo pos (starEach [e] X.env)).all (fun x => !x.1) && (backToKw pos (keywordEach [] X.env)).all (fun x => x.1.isSome)
      && decide ([e].length + ([] : List Keyword).length + (if ([] : List Keyword).isEmpty then 0 else 1) < 30)) = true := by rfl)
    (hline : (apos.endLine == pos.line) = true := by rfl) (hs : starEach [e] X.env = (false, eval e X.env) :: starEach [] X.env := by rfl) : DE X (.Call (.Attribute (.Name x p1) "index" apos) [e] [] pos) (eGix ys cs) := by
  refine ⟨fun W tk => PE.imp (pe_bm PySem.F.plainAttrs_tuple PySem.F.slot_tuple_index PySem.F.type_tuple_index mt_tup_index (pe_glob (v := .ref p) (cx.gl j x hg) (by rw [cx.mg]; exact hm) rfl hd) (ha.pa W tk) hbase hfew hline hs rfl) fun σ H Q ⟨m, env, st, S, R, hp⟩ => ?_⟩
  refine ⟨.inr (.inl ⟨rfl, by rw [cx.hK]; exact ht⟩), ?_⟩
  unfold eGix at hp
  rw [Rs.post_bind] at hp
  refine ⟨m, env, st, S, R, Rs.post_mono hp (fun ws st1 q vs H1 m1 f1 S1 r1 => ?_) fun _ _ q => q⟩
  split at q
  · rename_i z
    split at q
    · rename_i i ei
      obtain ⟨v, rfl, r⟩ := rws1 r1
      cases r
      unfold idxS at ei
      rw [List.findIdx?_eq_some_iff_getElem] at ei
      obtain ⟨hi, h1, h2⟩ := ei
      refine ⟨p, ys, z, i, rfl, rfl, by rw [cx.hK]; exact hq _, by rw [List.getElem?_eq_getElem hi]; simpa using h1, fun n hn e => ?_, q _ H1 m1 f1 S1 (.int _)⟩
      have := h2 n hn
      have hn2 : n < ys.length := by omega
      rw [List.getElem?_eq_getElem hn2] at e
      simp at this e
      exact this e
    · exact q.elim
  · exact q.elim
end
end

section
variable [Wtp] [Tbl]

/-! ## the law's own call -/
theorem law_run (hT : Tbl.T = []) {g : Bool} {P : Program} {w : World} {K : Frg} {mg mb : Str → Option Value} {k : Nat} {fa a : Addr} {fd : FuncData} {x : Str} {mf : List Wv → Sto → Rs Wv} {st9 : Sto} {s : Shared} {us : List Value} {ns : List Int}
    (inK : K.In s.heap) (glob : s.heap.Ns mainGlobals mg) (bns : s.heap.Ns builtinsNs mb) (bok : ∀ x : Str, x ≠ "__name__" → mb x = bootBuiltins x) (nolim : s.heap.NoLimit) (hgen : s.gens = #[])
    (hobj : s.heap.get? a = some { cls := .type "list", data := .seq us.toArray }) (hint : IntsAre us ns) (hlen : ns.length ≤ sizeLine) (room : Room k callerA)
    (F : ∀ base : Heap, K.In base → base.Ns mainGlobals mg → Fnk ⟨P, w, K, mg, base⟩ g k fa fd [x] mf) (bind : ∀ (s : Shared) (u : Value), BindsTo s fd ⟨[u], []⟩ [(x, u)])
    (law : mf [.d (.list (ns.map .int))] [] = .ok (.d (.bool true)) st9) :
    codeAny (model P w) callerA (.call (.ref fa) ⟨[.ref a], []⟩) (fun r s' => r = .ok (.ret (.bool true)) ∧ OldK s.heap s'.heap ∧ s'.os = s.os ∧ AllBare s'.gens) s := by
  have rel := vals_ints hint
  have ulen := hint.length
  have go : ∀ H : Hp, (∀ b u, H b = some u → b = a ∧ ∃ o, u = .frz o (.lst (ns.map V.int)) ∧ s.heap.get? b = some o) → LsX K H a (ns.map V.int) → HOk P w H s.heap → (H a ≠ none → K.lookup a = none) →
      codeAny (model P w) callerA (.call (.ref fa) ⟨[.ref a], []⟩) (fun r s' => r = .ok (.ret (.bool true)) ∧ OldK s.heap s'.heap ∧ s'.os = s.os ∧ AllBare s'.gens) s := by
    intro H only ls ok away
    have base0 : ∀ {b : Addr} {o : Obj}, s.heap.get? b = some o → H b = none → (hidT s.heap H).get? b = some o := fun e n => hidT_get e n
    have free : ∀ {b : Addr} {o : Obj} {es : Array DictEntry} {ep : Nat}, s.heap.get? b = some o → o.data = .dict es ep → H b = none := fun {b o es ep} e d => by
      cases q : H b with
      | none => rfl
      | some u =>
        obtain ⟨rfl, _⟩ := only b u q
        rw [hobj] at e
        cases e
        exact absurd (show Data.seq us.toArray _ = Data.dict es ep from d) fun z => nomatch z
    have ns' : ∀ {b : Addr} {m : Str → Option Value}, s.heap.Ns b m → (hidT s.heap H).Ns b m := fun {b m} h => by
      obtain ⟨o, es, ep, e, d, r⟩ := h
      exact ⟨o, es, ep, base0 e (free e d), d, r⟩
    have inB : K.In (hidT s.heap H) := fun b o e => base0 (inK b o e) (by
      cases q : H b with
      | none => rfl
      | some u =>
        obtain ⟨rfl, _⟩ := only b u q
        rw [away (by rw [q]; exact fun z => nomatch z)] at e
        cases e)
    obtain ⟨mc, lim1, lim2⟩ := nolim
    have hmod : Mod K mg (hidT s.heap H) := ⟨inB, ns' glob, ⟨mb, ns' bns, bok⟩, ⟨mc, ns' lim1, lim2⟩⟩
    have env : Env0 P w K mg (hidT s.heap H) callerA [] s H := ⟨rfl, hmod, fun b o e => of_hidT e, Nat.le_of_eq (hidT_size _ _), trivial, fun b hb => absurd hb List.not_mem_nil, ok, .of_eq hgen⟩
    have S : Sim K H ⟨fun _ => a, fun _ => False⟩ [] := ⟨fun i o e => by simp at e, fun i j hi => absurd hi (Nat.not_lt_zero _), fun b z => z.elim, fun i hi => absurd hi (Nat.not_lt_zero _), fun p hp => by rw [hT] at hp; exact absurd hp List.not_mem_nil⟩
    have items : ∀ l : List Int, RpA K H (Off ⟨fun _ => a, fun _ => False⟩ 0) (l.map V.int) (l.map PyData.int) := fun l => by
      induction l with
      | nil => exact .nil
      | cons i l ih => exact .cons (.int i) ih
    have off : Off ⟨fun _ => a, fun _ => False⟩ 0 a := ⟨fun i hi => absurd hi (Nat.not_lt_zero _), fun z => z⟩
    have arg : RWs K H ⟨fun _ => a, fun _ => False⟩ 0 [.ref a] [.d (.list (ns.map .int))] := .cons (.lst (by
      rcases ls with ⟨h, _⟩ | h | h
      · exact .inl ⟨h, off⟩
      · exact .inr (.inl h)
      · exact .inr (.inr h)) (items ns)) .nil
    refine codeAny_mono ((F _ inB (ns' glob)).run callerA [] s H ⟨[.ref a], []⟩ [.ref a] [.ref a] _ _ [] (fun v _ => v = .bl true) (fun _ _ _ => False) room (fun _ => rfl) env (bind s (.ref a)) (.cons rfl .nil) S arg (by
      rw [law]
      intro v H' m' f S' r
      cases r
      rfl)) fun r s' hr => ?_
    cases r with
    | error e =>
      obtain ⟨_, _, _, _, _, _, _, _, _, _, _, _, z⟩ := hr
      exact z.elim
    | ok fl =>
      cases fl with
      | next => exact hr.elim
      | brk => exact hr.elim
      | cont => exact hr.elim
      | ret u =>
        obtain ⟨v, H', os, bare, un, ok', rv, ev⟩ := hr
        have ev : v = .bl true := ev
        subst ev
        cases (show u = Value.bool true from rv)
        refine ⟨rfl, OldK.of_keep fun b o e => ?_, os, bare⟩
        cases q : H b with
        | none => exact un.keep b o e q (fun z => absurd z List.not_mem_nil) List.not_mem_nil
        | some u =>
          obtain ⟨rfl, ob, rfl, e1⟩ := only b u q
          rw [e] at e1
          cases e1
          exact (ok' _ _ (un.frzs _ _ _ q)).1
  cases hk : K.lookup a with
  | some o =>
    have e := inK a o hk
    rw [hobj] at e
    cases e
    refine go (fun _ => none) (fun b u z => nomatch z) (.inr (.inr ⟨us.toArray, _, hk, by rw [List.size_toArray, ulen]; exact hlen, by simpa using rel⟩)) (fun b u z => nomatch z) fun z => absurd rfl z
  | none =>
    have one : ∀ {b u}, (if b = a then some (HO.frz { cls := .type "list", data := .seq us.toArray } (.lst (ns.map V.int))) else none) = some u → b = a ∧ u = .frz { cls := .type "list", data := .seq us.toArray } (.lst (ns.map V.int)) := fun {b u} z => by
      split at z
      · cases z; exact ⟨by assumption, rfl⟩
      · cases z
    refine go (fun b => if b = a then some (.frz { cls := .type "list", data := .seq us.toArray } (.lst (ns.map V.int))) else none) (fun b u z => ?_) (.inr (.inl ⟨_, if_pos rfl⟩)) (fun b u z => ?_) fun _ => hk
    · obtain ⟨rfl, rfl⟩ := one z
      exact ⟨rfl, _, rfl, hobj⟩
    · obtain ⟨rfl, rfl⟩ := one z
      exact ⟨hobj, by rw [List.length_map]; exact hlen, us, _, rel, hobj⟩
theorem walk_run (hT : Tbl.T = []) {g : Bool} {l : PySem.W.OpenLaw} {n k : Nat} {q : Program} {loose : List Str} {XP : (Str → Option Value) → Heap → Prop} {YP : World → Heap → Prop} {d : DefRec} {K : Params → Frg} {x : Str} {mf : List Wv → Sto → Rs Wv}
    (hn : l.most = some n) (hn2 : n ≤ sizeLine) (hdf : d.params.defaults = []) (hr : Room k callerA) (hY : ∀ (w : World) (h : Heap), YP w h → (K w.params).In h)
    (F : ∀ (w : World) (mg : Str → Option Value) (fa : Addr) (h : Heap), (K w.params).In h → h.Ns mainGlobals mg → mg d.name = some (.ref fa) →
      ∃ fd : FuncData, (∀ (s : Shared) (u : Value), BindsTo s fd ⟨[u], []⟩ [(x, u)]) ∧ ∀ base : Heap, (K w.params).In base → base.Ns mainGlobals mg → Fnk ⟨l.prog, w, K w.params, mg, base⟩ g k fa fd [x] mf)
    (law : ∀ ns : List Int, ns.length ≤ n → ∃ st, mf [.d (.list (ns.map .int))] [] = .ok (.d (.bool true)) st) :
    PySem.W.WalkO q loose XP YP l.row.toRowW d [] (fun f vs => PySem.call f vs) := by
  refine Att.attach_call hn hdf fun w s0 s mg mb fa o pm cd doc a us ns G Y ho hd hcd hmg hobj hints hlen hg => ?_
  have inK := hY w _ Y
  obtain ⟨fd, hb, hF⟩ := F w mg fa _ inK G.T.g hmg
  obtain ⟨st, hl⟩ := law ns hlen
  exact law_run hT inK G.T.g G.T.b G.T.builtins G.T.nolimit hg hobj hints (Nat.le_trans hlen hn2) hr hF hb hl
end

section
variable [Wtp] [Tbl]

/-! ## a, b = x, y: which stores -/
section
variable {M : Md} {X : Cx} {B : Tb} {k : Nat} {x y z : Str} {px py pz pt pt2 : Pos} {kt k2 : Nat} {a b e : Expr}
theorem isLoc (c : Cxt M X B k) {i : Nat} (h : i ∈ B.ps) (hx : B.N[i]? = some x) : X.env.kindOf x = some .local := c.pl i h x hx
theorem blkFn (c : Cxt M X B k) (hf : B.fn = true) : X.env.blockKind = .function := by unfold Env.blockKind; rw [c.kind hf]; rfl
def NoStar (e : Expr) : Prop := ∀ u p, e ≠ .Starred u p
theorem sw2 (c : Cxt M X B k) {i j : Nat} (hi : B.N[i]? = some x) (hj : B.N[j]? = some y) (pi : i ∈ B.ps) (pj : j ∈ B.ps) (hxy : [x, y].eraseDups.length = 2) (hf : B.fn = true) (hln : (py.line == px.line) = true)
    (ha : NoStar a) (hb : NoStar b) (hff : [a, b].all (foldedForSure 8) = false) (hca : [a, b].all (constantsAlone 8) = false) :
    swappedStores [.Tuple [.Name x px, .Name y py] kt pt] (.Tuple [a, b] k2 pt2) X.env = pure (some [x, y]) := by
  have h1 := isLoc c pi hi
  have h2 := isLoc c pj hj
  have h3 := blkFn c hf
  have hl : py.line = px.line := eq_of_beq hln
  unfold swappedStores
  simp [h1, h2, h3, hl, hff, hca, hxy, Expr.pos]
  rintro (h | h)
  · split at h
    · exact absurd rfl (ha _ _)
    · cases h
  · split at h
    · exact absurd rfl (hb _ _)
    · cases h
theorem sw2c (c : Cxt M X B k) {i j : Nat} (hi : B.N[i]? = some x) (hj : B.N[j]? = some y) (pi : i ∈ B.ps) (pj : j ∈ B.ps) (hxy : [x, y].eraseDups.length = 2) (hf : B.fn = true) (hln : (py.line == px.line) = true)
    (hff : [a, b].all (foldedForSure 8) = true) :
    swappedStores [.Tuple [.Name x px, .Name y py] kt pt] (.Tuple [a, b] k2 pt2) X.env = pure none := by
  have h1 := isLoc c pi hi
  have h2 := isLoc c pj hj
  have h3 := blkFn c hf
  have hl : py.line = px.line := eq_of_beq hln
  unfold swappedStores
  simp [h1, h2, h3, hl, hff, hxy, Expr.pos]
theorem sw3 (c : Cxt M X B k) {i j l : Nat} (hi : B.N[i]? = some x) (hj : B.N[j]? = some y) (hl : B.N[l]? = some z) (pi : i ∈ B.ps) (pj : j ∈ B.ps) (pl : l ∈ B.ps) (hxy : [x, y, z].eraseDups.length = 3) (hf : B.fn = true) (hln : (py.line == px.line) = true) (hlz : (pz.line == px.line) = true)
    (ha : NoStar a) (hb : NoStar b) (he : NoStar e) (hff : [a, b, e].all (foldedForSure 8) = false) (hca : [a, b, e].all (constantsAlone 8) = false) :
    swappedStores [.Tuple [.Name x px, .Name y py, .Name z pz] kt pt] (.Tuple [a, b, e] k2 pt2) X.env = pure (some [x, y, z]) := by
  have h1 := isLoc c pi hi
  have h2 := isLoc c pj hj
  have h4 := isLoc c pl hl
  have h3 := blkFn c hf
  have hl : py.line = px.line := eq_of_beq hln
  have hl2 : pz.line = px.line := eq_of_beq hlz
  unfold swappedStores
  simp [h1, h2, h3, h4, hl, hl2, hff, hca, hxy, Expr.pos]
  rintro (h | h | h)
  · split at h
    · exact absurd rfl (ha _ _)
    · cases h
  · split at h
    · exact absurd rfl (hb _ _)
    · cases h
  · split at h
    · exact absurd rfl (he _ _)
    · cases h
theorem sw3c (c : Cxt M X B k) {i j l : Nat} (hi : B.N[i]? = some x) (hj : B.N[j]? = some y) (hl : B.N[l]? = some z) (pi : i ∈ B.ps) (pj : j ∈ B.ps) (pl : l ∈ B.ps) (hxy : [x, y, z].eraseDups.length = 3) (hf : B.fn = true) (hln : (py.line == px.line) = true) (hlz : (pz.line == px.line) = true)
    (hff : [a, b, e].all (foldedForSure 8) = true) :
    swappedStores [.Tuple [.Name x px, .Name y py, .Name z pz] kt pt] (.Tuple [a, b, e] k2 pt2) X.env = pure none := by
  have h1 := isLoc c pi hi
  have h2 := isLoc c pj hj
  have h4 := isLoc c pl hl
  have h3 := blkFn c hf
  have hl : py.line = px.line := eq_of_beq hln
  have hl2 : pz.line = px.line := eq_of_beq hlz
  unfold swappedStores
  simp [h1, h2, h3, h4, hl, hl2, hff, hxy, Expr.pos]

/-! ## the module's defs -/
def Has (M : Md) (g : Bool) (k : Nat) (x : Str) (ps : List Str) (mf : List Wv → Sto → Rs Wv) : Prop := ∃ f fd, M.mg x = some (.ref f) ∧ PySem.W.keepIn M.K (.ref f) = true ∧ Binds M.K fd ps [] ∧ Fnk M g k f fd ps mf
theorem Has.up {g : Bool} {ps : List Str} {mf : List Wv → Sto → Rs Wv} {j : Nat} (h : Has M g j x ps mf) (hj : j ≤ k) : Has M g k x ps mf := by
  obtain ⟨f, fd, h1, h2, h3, h4⟩ := h
  exact ⟨f, fd, h1, h2, h3, h4.mono hj⟩
theorem de_fn {g : Bool} {ps : List Str} {mf : List Wv → Sto → Rs Wv} {cs : En → Sto → Rs (List Wv)} {p pos : Pos} {es : List Expr} (c : Cxt M X B k) (F : Has M g k x ps mf) (j : Nat) (hg : B.gs[j]? = some x) (ha : DA X (e :: es) cs) (hgd : g = true → B.gd = true := by first | exact fun _ => rfl | exact fun z => Bool.noConfusion z) (hdb : (x == ("__debug__" : Str)) = false := by decide)
    (he : starEach (e :: es) X.env = (false, eval e X.env) :: starEach es X.env := by rfl) (hpl : (backTo pos (starEach es X.env)).any (·.1) = false := by rfl) : DE X (.Call (.Name x p) (e :: es) [] pos) (eCall mf cs) := by
  obtain ⟨f, fd, h1, h2, h3, h4⟩ := F
  exact de_call c h4 j hg h1 h2 h3 ha hgd hdb he hpl
/-- a def as the top has written it -/
structure TopFn (M : Md) (x : Str) (sf : Stmt) (ps : List Str) : Prop where
  at' : ∃ (f : Addr) (od an : Option Addr) (sl : Array (Option Value)) (oc kV dc pm cd ct : Value), M.mg x = some (.ref f) ∧ M.K.lookup f = some ⟨oc, od, .func (PySem.W.fnOf x x (defArgs sf) (defBody sf) (defScope sf) .none kV dc pm an cd ct), sl⟩ ∧
    PySem.W.codeIn M.K cd x = true ∧ PySem.W.keepIn M.K (.ref f) = true ∧ Binds M.K (PySem.W.fnOf x x (defArgs sf) (defBody sf) (defScope sf) .none kV dc pm an cd ct) ps []
/-- a def of the module that makes lambdas -/
structure LamT (M : Md) (x q : Str) : Prop where
  nm : (x ++ ".<locals>.") ++ "<lambda>" = q
  at' : ∃ c P : Addr, (∀ (f : Addr) (oc : Value) (od : Option Addr) (fd : FuncData) (sl : Array (Option Value)), M.mg x = some (.ref f) → M.K.lookup f = some ⟨oc, od, .func fd, sl⟩ → fd.code = .ref c) ∧ (P, q) ∈ Tbl.T ∧ (∀ p ∈ Tbl.T, p.1 = P → p.2 = q) ∧ LamX.TabB M.base M.mg c P
theorem LamT.to {q : Str} {f : Addr} {oc : Value} {od : Option Addr} {fd : FuncData} {sl : Array (Option Value)} (T : LamT M x q) (h1 : M.mg x = some (.ref f)) (h2 : M.K.lookup f = some ⟨oc, od, .func fd, sl⟩) : (x ++ ".<locals>.") ++ "<lambda>" = q ∧ LamC M.mg M.base q fd.code := by
  obtain ⟨c, P, e1, e2, e3, e4⟩ := T.at'
  exact ⟨T.nm, ⟨c, P, e1 f oc od fd sl h1 h2, e2, e3, e4⟩⟩
theorem has_of {sf : Stmt} {ps : List Str} {cb : En → Sto → SR} {np nN : Nat} (T : TopFn M x sf ps) (SC : FnScope B.N ps (defScope sf)) (hT : fnT B (defScope sf) = true) (hnp : ps.length = np) (hnN : B.N.length = nN)
    (hb : ∀ X : Cx, Cxt M X B k → DB X (defBody sf) cb) (hlam : ∀ q, B.lq = some q → LamT M x q := by intro _ h; exact nomatch (show (none : Option Str) = some _ from h)) : Has M B.gd (k + 1) x ps (mkF np nN cb) := by
  obtain ⟨f, od, an, sl, oc, kV, dc, pm, cd, ct, h1, h2, h3, h4, h5⟩ := T.at'
  exact ⟨f, _, h1, h4, h5, fnk_of h2 h3 SC hT hnp hnN hb (fun q hq => (hlam q hq).to h1 h2)⟩

/-! ## the module's constants -/
def Gw (M : Md) (x : Str) (y : PyData) : Prop := ∃ u v, M.mg x = some u ∧ RelV v u ∧ ∀ H Z, Rp M.K H Z v y
theorem de_gw {y : PyData} {p : Pos} (c : Cxt M X B k) (j : Nat) (h : B.gs[j]? = some x) (g : Gw M x y) (hd : (x == ("__debug__" : Str)) = false := by decide) : DE X (.Name x p) (eK y) := by
  obtain ⟨u, v, h1, h2, h3⟩ := g
  exact de_glob c j h h1 h2 h3 hd
def Gix (M : Md) (x : Str) (ys : List Str) : Prop := ∃ p, M.mg x = some (.ref p) ∧ (∀ H, SqT M.K H p (ys.map V.str)) ∧ ∃ o, M.K.lookup p = some o ∧ o.cls = .type "tuple" ∧ o.dict = none
theorem de_gix {ys : List Str} {cs : En → Sto → Rs (List Wv)} {p1 apos pos : Pos} (c : Cxt M X B k) (j : Nat) (h : B.gs[j]? = some x) (g : Gix M x ys) (ha : DA X [e] cs)
    (hfew : ((backTo pos (starEach [e] X.env)).all (fun x => !x.1) && (backToKw pos (keywordEach [] X.env)).all (fun x => x.1.isSome)
      && decide ([e].length + ([] : List Keyword).length + (if ([] : List Keyword).isEmpty then 0 else 1) < 30)) = true := by rfl)
    (hline : (apos.endLine == pos.line) = true := by rfl) (hs : starEach [e] X.env = (false, eval e X.env) :: starEach [] X.env := by rfl) (hd : (x == ("__debug__" : Str)) = false := by decide)
    (hbase : attributeBase (.Name x p1) "index" X.env (eval (.Name x p1) X.env) = eval (.Name x p1) X.env := by rfl) : DE X (.Call (.Attribute (.Name x p1) "index" apos) [e] [] pos) (eGix ys cs) := by
  obtain ⟨p, h1, h2, h3⟩ := g
  exact de_gindex c j h h1 h2 h3 ha hd hbase hfew hline hs

theorem top_mk {h : Heap} {sf : Stmt} {ps : List Str} {f : Addr} {od an : Option Addr} {sl : Array (Option Value)} {oc kV dc pm cd ct : Value} (inK : M.K.In h) (G : h.Ns mainGlobals M.mg) (a : PySem.W.nsIn M.K mainGlobals x = some (some (.ref f)))
    (l : M.K.lookup f = some ⟨oc, od, .func (PySem.W.fnOf x x (defArgs sf) (defBody sf) (defScope sf) .none kV dc pm an cd ct), sl⟩) (cc : PySem.W.codeIn M.K cd x = true) (kk : PySem.W.keepIn M.K (.ref f) = true)
    (hb : ∀ us : List Value, us.length = ps.length → bindArgs (PySem.W.fnOf x x (defArgs sf) (defBody sf) (defScope sf) .none kV dc pm an cd ct) ⟨us, []⟩ = pure (ps.zip us)) : TopFn M x sf ps :=
  ⟨f, od, an, sl, oc, kV, dc, pm, cd, ct, PySem.W.mg_of inK G a, l, cc, kk, .all hb⟩
/-- a value that the top has written -/
def Wr (K : Frg) (u : Value) (d : PyData) : Prop := ∃ v, RelV v u ∧ ∀ H Z, Rp K H Z v d
def Wrs (K : Frg) (us : List Value) (ds : List PyData) : Prop := ∃ vs, Vals vs us ∧ ∀ H Z, RpA K H Z vs ds
section
variable {K : Frg}
theorem wr_non : Wr K .none .none := ⟨.non, rfl, fun _ _ => .non⟩
theorem wr_bl {b : Bool} : Wr K (.bool b) (.bool b) := ⟨.bl b, rfl, fun _ _ => .bl b⟩
theorem wr_int {i : Int} {t : Tok} : Wr K (.int i t) (.int i) := ⟨.int i, ⟨t, rfl⟩, fun _ _ => .int i⟩
theorem wr_str {z : Str} {t : Tok} : Wr K (.str z t) (.str z) := ⟨.str z, ⟨t, rfl⟩, fun _ _ => .str z⟩
theorem wrs_nil : Wrs K [] [] := ⟨[], .nil, fun _ _ => .nil⟩
theorem wrs_cons {u : Value} {us : List Value} {d : PyData} {ds : List PyData} (h : Wr K u d) (r : Wrs K us ds) : Wrs K (u :: us) (d :: ds) := by
  obtain ⟨v, h1, h2⟩ := h
  obtain ⟨vs, h3, h4⟩ := r
  exact ⟨v :: vs, .cons h1 h3, fun H Z => .cons (h2 H Z) (h4 H Z)⟩
theorem wr_tup {p : Addr} {us : List Value} {ds : List PyData} {n : Nat} {sl : Array (Option Value)} (l : K.lookup p = some ⟨.type "tuple", none, .seq us.toArray n, sl⟩) (hz : us.length ≤ 1000) (r : Wrs K us ds) (hw : PyData.tuple ds ∈ Wtp.W) : Wr K (.ref p) (.tuple ds) := by
  obtain ⟨vs, h1, h2⟩ := r
  exact ⟨.ref p, rfl, fun H Z => .tup (.inr ⟨.inr ⟨_, us.toArray, n, l, rfl, rfl, by have := line_lim; simp; omega, by simpa using h1⟩, hw⟩) (h2 H Z)⟩
end
theorem gw_of {h : Heap} {u : Value} {y : PyData} (inK : M.K.In h) (G : h.Ns mainGlobals M.mg) (a : PySem.W.nsIn M.K mainGlobals x = some (some u)) (w : Wr M.K u y) : Gw M x y := by
  obtain ⟨v, h1, h2⟩ := w
  exact ⟨u, v, PySem.W.mg_of inK G a, h1, h2⟩
theorem gix_of {h : Heap} {p : Addr} {us : List Value} {n : Nat} {sl : Array (Option Value)} {ys : List Str} (inK : M.K.In h) (G : h.Ns mainGlobals M.mg) (a : PySem.W.nsIn M.K mainGlobals x = some (some (.ref p))) (l : M.K.lookup p = some ⟨.type "tuple", none, .seq us.toArray n, sl⟩)
    (hz : us.length ≤ 1000) (hv : Vals (ys.map V.str) us) : Gix M x ys :=
  ⟨p, PySem.W.mg_of inK G a, fun H => .inr ⟨_, us.toArray, n, l, rfl, rfl, by have := line_lim; simp; omega, by simpa using hv⟩, _, l, rfl, rfl⟩
end
end

section
variable [Wtp] [Tbl]

/-! ## reading a def on data -/
section
variable {α β : Type} (env : En) (st : Sto)
@[simp] theorem x_var (i : Nat) : eVar i env st = match env[i]? with
  | some (some w) => .ok w st
  | _ => .no := rfl
@[simp] theorem x_k (x : PyData) : eK x env st = .ok (.d x) st := rfl
@[simp] theorem x_op2 (f : PyData → PyData → Option PyData) (a b : En → Sto → Rs Wv) : eOp2 f a b env st = (a env st).bind fun v st1 => (b env st1).bind fun w st2 => look1 v st2 fun d => look1 w st2 fun e => ret1 (f d e) st2 := rfl
@[simp] theorem x_op1 (f : PyData → Option PyData) (a : En → Sto → Rs Wv) : eOp1 f a env st = (a env st).bind fun v st1 => look1 v st1 fun d => ret1 (f d) st1 := rfl
@[simp] theorem x_nil : aNil env st = .ok [] st := rfl
@[simp] theorem x_cons (a : En → Sto → Rs Wv) (b : En → Sto → Rs (List Wv)) : aCons a b env st = (a env st).bind fun v st1 => (b env st1).bind fun r st2 => .ok (v :: r) st2 := rfl
end
def srcW (w : Wv) (st1 : Sto) : Rs Sc := match w with
  | .d (.str x) => .ok ⟨x.cps.toList.map sgnD, []⟩ st1
  | .d (.dict es) => .ok ⟨es.map (·.1), []⟩ st1
  | w => match seqW w st1 with
    | some sc => .ok sc st1
    | none => .no
def rg1W (ws : List Wv) (st1 : Sto) : Rs Sc := match ws with
  | [.d (.int j)] => if rgOk j then .ok ⟨rangeD 0 j.toNat, []⟩ st1 else .no
  | _ => .no
def rg2W (ws : List Wv) (st1 : Sto) : Rs Sc := match ws with
  | [.d (.int i), .d (.int j)] => if rgOk i && rgOk j then .ok ⟨rangeD i (j - i).toNat, []⟩ st1 else .no
  | _ => .no
def rgdW (ws : List Wv) (st1 : Sto) : Rs Sc := match ws with
  | [.d (.int i), .d (.int j), .d (.int (-1))] => if rgOk i && rgOk j then .ok ⟨downD i (i - j).toNat, []⟩ st1 else .no
  | _ => .no
def enumW (ws : List Wv) (st1 : Sto) : Rs Sc := match ws with
  | [u] => match seqW u st1 with
    | some a => .ok ⟨enumD a.xs, a.lv⟩ st1
    | _ => .no
  | _ => .no
def zip2W (ws : List Wv) (st1 : Sto) : Rs Sc := match ws with
  | [u, v] => match seqW u st1, seqW v st1 with
    | some a, some b => .ok ⟨List.zipWith pairD a.xs b.xs, a.lv ++ b.lv⟩ st1
    | _, _ => .no
  | _ => .no
def zip3W (ws : List Wv) (st1 : Sto) : Rs Sc := match ws with
  | [u, v, w] => match seqW u st1, seqW v st1, seqW w st1 with
    | some a, some b, some c => .ok ⟨zip3 a.xs b.xs c.xs, (a.lv ++ b.lv) ++ c.lv⟩ st1
    | _, _, _ => .no
  | _ => .no
def tupW (ws : List Wv) (st1 : Sto) : Rs Wv := match allD ws with
  | some ds => if ds.length ≤ 1000000 then .ok (.d (.tuple ds)) st1 else .no
  | none => .no
def lstW (ws : List Wv) (st1 : Sto) : Rs Wv := match allD ws with
  | some ds => if ds.length ≤ 1000000 then .ok (.d (.list ds)) st1 else .no
  | none => .no
def newW (ws : List Wv) (st1 : Sto) : Rs Wv := match allD ws with
  | some ds => if ds.length ≤ 1000000 then .ok (.r st1.length) (st1 ++ [.lst ds]) else .no
  | none => .no
def gixW (ys : List Str) (ws : List Wv) (st1 : Sto) : Rs Wv := match ws with
  | [.d (.str z)] => match idxS ys z with
    | some i => .ok (.d (.int (i : Nat))) st1
    | none => .no
  | _ => .no
@[simp] theorem x_opN (env : En) (st : Sto) (f : List PyData → Option PyData) (c : En → Sto → Rs (List Wv)) : eOpN f c env st = ((c env st).bind fun ws st1 => match looks ws st1 with | some ds => ret1 (f ds) st1 | none => .no) := rfl
@[simp] theorem x_tru (env : En) (st : Sto) (c : En → Sto → Rs Wv) : tTru c env st = ((c env st).bind tru) := rfl
@[simp] theorem x_and (env : En) (st : Sto) (a b : En → Sto → Rs Bool) : tAnd2 a b env st = ((a env st).bind fun x st1 => if x = true then b env st1 else .ok false st1) := rfl
@[simp] theorem x_or (env : En) (st : Sto) (a b : En → Sto → Rs Bool) : tOr2 a b env st = ((a env st).bind fun x st1 => if x = true then .ok true st1 else b env st1) := rfl
@[simp] theorem x_not (env : En) (st : Sto) (a : En → Sto → Rs Bool) : tNot1 a env st = ((a env st).bind fun x st1 => .ok (!x) st1) := rfl
@[simp] theorem x_eand (env : En) (st : Sto) (a b : En → Sto → Rs Wv) : eAnd2 a b env st = ((a env st).bind fun w st1 => (tru w st1).bind fun x st2 => if x = true then b env st2 else .ok w st2) := rfl
@[simp] theorem x_eor (env : En) (st : Sto) (a b : En → Sto → Rs Wv) : eOr2 a b env st = ((a env st).bind fun w st1 => (tru w st1).bind fun x st2 => if x = true then .ok w st2 else b env st2) := rfl
@[simp] theorem x_enot (env : En) (st : Sto) (a : En → Sto → Rs Wv) : eNot1 a env st = ((a env st).bind fun w st1 => (tru w st1).bind fun x st2 => .ok (.d (.bool (!x))) st2) := rfl
@[simp] theorem x_eif (env : En) (st : Sto) (t : En → Sto → Rs Bool) (a b : En → Sto → Rs Wv) : eIf t a b env st = ((t env st).bind fun x st1 => if x = true then a env st1 else b env st1) := rfl
@[simp] theorem x_bl (env : En) (st : Sto) (c : En → Sto → Rs Wv) : tBl c env st = ((c env st).bind fun w st1 => match w with | .d (.bool b) => .ok b st1 | _ => .no) := rfl
@[simp] theorem x_newd (env : En) (st : Sto)  : eNewD env st = (.ok (.r st.length) (st ++ [.dct []])) := rfl
def sixTW (env : En) (x w : Wv) (js : List Wv) (st3 : Sto) : SR := match x with
  | .d y => match allD js with
    | some ds => if ds.length ≤ 1000000 then (match setWT w (.tuple ds) y st3 with
      | some st4 => .nx env st4
      | none => .no) else .no
    | none => .no
  | _ => .no
@[simp] theorem x_sixt (env : En) (st : Sto) (co : En → Sto → Rs Wv) (cs : En → Sto → Rs (List Wv)) (ce : En → Sto → Rs Wv) : sIxT co cs ce env st = ((ce env st).sb fun x st1 => (co env st1).sb fun w st2 => (cs env st2).sb (sixTW env x w)) := rfl
@[simp] theorem x_newt (env : En) (st : Sto) : eNewT env st = (.ok (.r st.length) (st ++ [.dtt []])) := rfl
@[simp] theorem x_dic0 (env : En) (st : Sto)  : eDic0 env st = (.ok (.d (.dict [])) st) := rfl
@[simp] theorem x_slice (env : En) (st : Sto) (c : En → Sto → Rs Wv) (l h : En → Sto → Rs (Option Int)) : eSlice c l h env st = ((c env st).bind fun w st1 => (l env st1).bind fun i st2 => (h env st2).bind fun j st3 => look1 w st3 fun d => ret1 (slD i j d) st3) := rfl
@[simp] theorem x_pno (env : En) (st : Sto)  : pNo env st = (.ok none st) := rfl
@[simp] theorem x_psome (env : En) (st : Sto) (c : En → Sto → Rs Wv) : pSome c env st = ((c env st).bind fun w st1 => match w with | .d (.int i) => .ok (some i) st1 | _ => .no) := rfl
@[simp] theorem x_snil (env : En) (st : Sto)  : sNil env st = (.nx env st) := rfl
@[simp] theorem x_seq (env : En) (st : Sto) (a b : En → Sto → SR) : sSeq a b env st = ((a env st).seq b) := rfl
@[simp] theorem x_set (env : En) (st : Sto) (i : Nat) (c : En → Sto → Rs Wv) : sSet i c env st = ((c env st).sb fun w st1 => .nx (env.set i (some w)) st1) := rfl
@[simp] theorem x_ret (env : En) (st : Sto) (c : En → Sto → Rs Wv) : sRet c env st = ((c env st).sb fun w st1 => .rt (.w w) st1) := rfl
@[simp] theorem x_retf (env : En) (st : Sto) (c : En → Sto → Rs Wv) : sRetF c env st = ((c env st).sb fun w st1 => .rt (.f w) st1) := rfl
@[simp] theorem x_rett (env : En) (st : Sto) (c : En → Sto → Rs (List Wv)) : sRetT c env st = ((c env st).sb fun ws st1 => if ws.length ≤ 1000 then .rt (.ft ws) st1 else .no) := rfl
@[simp] theorem x_retn (env : En) (st : Sto)  : sRetN env st = (.rt (.w (.d .none)) st) := rfl
@[simp] theorem x_exp (env : En) (st : Sto) (c : En → Sto → Rs Wv) : sExp c env st = ((c env st).sb fun _ st1 => .nx env st1) := rfl
@[simp] theorem x_if (env : En) (st : Sto) (t : En → Sto → Rs Bool) (a b : En → Sto → SR) : sIf t a b env st = ((t env st).sb fun x st1 => if x = true then a env st1 else b env st1) := rfl
@[simp] theorem x_sno (env : En) (st : Sto)  : sNo env st = (.no) := rfl
@[simp] theorem x_asg (env : En) (st : Sto) (g : Wv → En → Option En) (c : En → Sto → Rs Wv) : sAsg g c env st = ((c env st).sb fun w st1 => match g w env with | some env' => .nx env' st1 | none => .no) := rfl
@[simp] theorem x_par2 (env : En) (st : Sto) (i j : Nat) (c : En → Sto → Rs (List Wv)) : sPar2 i j c env st = ((c env st).sb fun ws st1 => match ws with | [v, w] => .nx ((env.set i (some v)).set j (some w)) st1 | _ => .no) := rfl
@[simp] theorem x_par3 (env : En) (st : Sto) (i j l : Nat) (c : En → Sto → Rs (List Wv)) : sPar3 i j l c env st = ((c env st).sb fun ws st1 => match ws with | [u, v, w] => .nx (((env.set i (some u)).set j (some v)).set l (some w)) st1 | _ => .no) := rfl
@[simp] theorem x_for (env : En) (st : Sto) (ci : En → Sto → Rs Sc) (g : Wv → En → Option En) (b : En → Sto → SR) : sFor ci g b env st = ((ci env st).sb fun sc st1 => forL g b sc.lv sc.xs env st1) := rfl
@[simp] theorem x_clc (env : En) (st : Sto) (ci : En → Sto → Rs Sc) (g : Wv → En → Option En) (t : En → Sto → Rs Bool) (c : En → Sto → Rs Wv) (vs : List Nat) : cLc ci g t c vs env st = ((ci env st).bind fun sc st1 => if sc.xs.length ≤ 1000000 then lcL g t c sc.lv (wipeE env vs) sc.xs [] st1 else .no) := rfl
@[simp] theorem x_lc (env : En) (st : Sto) (ci : En → Sto → Rs Sc) (g : Wv → En → Option En) (t : En → Sto → Rs Bool) (c : En → Sto → Rs Wv) (vs : List Nat) : eLc ci g t c vs env st = ((cLc ci g t c vs env st).bind fun ys st2 => .ok (.d (.list ys)) st2) := rfl
@[simp] theorem x_lcn (env : En) (st : Sto) (ci : En → Sto → Rs Sc) (g : Wv → En → Option En) (t : En → Sto → Rs Bool) (c : En → Sto → Rs Wv) (vs : List Nat) : eLcN ci g t c vs env st = ((cLc ci g t c vs env st).bind fun ys st2 => .ok (.r st2.length) (st2 ++ [.lst ys])) := rfl
@[simp] theorem x_yes (env : En) (st : Sto)  : tYs env st = (.ok true st) := rfl
@[simp] theorem x_meth (env : En) (st : Sto) (g : Wv → List Wv → Sto → Rs Wv) (co : En → Sto → Rs Wv) (cs : En → Sto → Rs (List Wv)) : eM g co cs env st = ((co env st).bind fun w st1 => if isLst st1 w = true then (cs env st1).bind fun ws st2 => g w ws st2 else .no) := rfl
@[simp] theorem x_call (env : En) (st : Sto) (mf : List Wv → Sto → Rs Wv) (cs : En → Sto → Rs (List Wv)) : eCall mf cs env st = ((cs env st).bind mf) := rfl
@[simp] theorem x_seqs (env : En) (st : Sto) (c : En → Sto → Rs Wv) : cSeq c env st = ((c env st).bind srcW) := rfl
@[simp] theorem x_rg1 (env : En) (st : Sto) (c : En → Sto → Rs (List Wv)) : cRg1 c env st = ((c env st).bind rg1W) := rfl
@[simp] theorem x_rg2 (env : En) (st : Sto) (c : En → Sto → Rs (List Wv)) : cRg2 c env st = ((c env st).bind rg2W) := rfl
@[simp] theorem x_rgd (env : En) (st : Sto) (c : En → Sto → Rs (List Wv)) : cRgD c env st = ((c env st).bind rgdW) := rfl
@[simp] theorem x_enum (env : En) (st : Sto) (c : En → Sto → Rs (List Wv)) : cEnum c env st = ((c env st).bind enumW) := rfl
@[simp] theorem x_zip2 (env : En) (st : Sto) (c : En → Sto → Rs (List Wv)) : cZip2 c env st = ((c env st).bind zip2W) := rfl
@[simp] theorem x_zip3 (env : En) (st : Sto) (c : En → Sto → Rs (List Wv)) : cZip3 c env st = ((c env st).bind zip3W) := rfl
@[simp] theorem x_tup (env : En) (st : Sto) (c : En → Sto → Rs (List Wv)) : eTup c env st = ((c env st).bind tupW) := rfl
@[simp] theorem x_lst (env : En) (st : Sto) (c : En → Sto → Rs (List Wv)) : eLst c env st = ((c env st).bind lstW) := rfl
@[simp] theorem x_newl (env : En) (st : Sto) (c : En → Sto → Rs (List Wv)) : eNewL c env st = ((c env st).bind newW) := rfl
@[simp] theorem x_gix (env : En) (st : Sto) (ys : List Str) (c : En → Sto → Rs (List Wv)) : eGix ys c env st = ((c env st).bind (gixW ys)) := rfl
def chW (o : Option PyData) (k : Rs Wv) (st : Sto) : Rs Wv := match o with
  | some (.bool true) => k
  | some (.bool false) => .ok (.d (.bool false)) st
  | _ => .no
@[simp] theorem chW_b (b : Bool) (k : Rs Wv) (st : Sto) : chW (some (.bool b)) k st = if b = true then k else .ok (.d (.bool false)) st := by cases b <;> rfl
@[simp] theorem x_chain (env : En) (st : Sto) (f g : PyData → PyData → Option PyData) (a b c : En → Sto → Rs Wv) : eChain f g a b c env st = ((a env st).bind fun v st1 => (b env st1).bind fun w st2 => look1 v st2 fun d => look1 w st2 fun e => chW (f d e) ((c env st2).bind fun z st3 => look1 w st3 fun e' => look1 z st3 fun y => ret1 (g e' y) st3) st2) := rfl
@[simp] theorem if_a (p : Prop) [Decidable p] (x : Bool) (st : Sto) : (if p then Rs.ok (Wv.d (.bool x)) st else Rs.ok (Wv.d (.bool false)) st) = Rs.ok (Wv.d (.bool (decide p && x))) st := by by_cases h : p <;> simp [h]
@[simp] theorem if_o (p : Prop) [Decidable p] (x : Bool) (st : Sto) : (if p then Rs.ok (Wv.d (.bool true)) st else Rs.ok (Wv.d (.bool x)) st) = Rs.ok (Wv.d (.bool (decide p || x))) st := by by_cases h : p <;> simp [h]
@[simp] theorem if_c (p : Prop) [Decidable p] (x : Bool) (st : Sto) : (if p then Rs.ok (Wv.d (.bool false)) st else Rs.ok (Wv.d (.bool x)) st) = Rs.ok (Wv.d (.bool (!decide p && x))) st := by by_cases h : p <;> simp [h]
@[simp] theorem if_d (p : Prop) [Decidable p] (x : Bool) (st : Sto) : (if p then Rs.ok (Wv.d (.bool x)) st else Rs.ok (Wv.d (.bool true)) st) = Rs.ok (Wv.d (.bool (!decide p || x))) st := by by_cases h : p <;> simp [h]
@[simp] theorem if_ta (p : Prop) [Decidable p] (x : Bool) (st : Sto) : (if p then Rs.ok x st else Rs.ok false st) = Rs.ok (decide p && x) st := by by_cases h : p <;> simp [h]
@[simp] theorem if_to (p : Prop) [Decidable p] (x : Bool) (st : Sto) : (if p then Rs.ok true st else Rs.ok x st) = Rs.ok (decide p || x) st := by by_cases h : p <;> simp [h]
@[simp] theorem if_tc (p : Prop) [Decidable p] (x : Bool) (st : Sto) : (if p then Rs.ok false st else Rs.ok x st) = Rs.ok (!decide p && x) st := by by_cases h : p <;> simp [h]
@[simp] theorem if_td (p : Prop) [Decidable p] (x : Bool) (st : Sto) : (if p then Rs.ok x st else Rs.ok true st) = Rs.ok (!decide p || x) st := by by_cases h : p <;> simp [h]
@[simp] theorem if_a2 (b x : Bool) (st : Sto) : (if b = true then Rs.ok (Wv.d (.bool x)) st else Rs.ok (Wv.d (.bool b)) st) = Rs.ok (Wv.d (.bool (b && x))) st := by cases b <;> rfl
@[simp] theorem if_o2 (b x : Bool) (st : Sto) : (if b = true then Rs.ok (Wv.d (.bool b)) st else Rs.ok (Wv.d (.bool x)) st) = Rs.ok (Wv.d (.bool (b || x))) st := by cases b <;> rfl
noncomputable def sixW (env : En) (w j x : Wv) (st3 : Sto) : SR := match x with
  | .d y => match setW w j y st3 with
    | some st4 => .nx env st4
    | none => .no
  | _ => .no
@[simp] theorem x_six (env : En) (st : Sto) (co ci ce : En → Sto → Rs Wv) : sIx co ci ce env st = (ce env st).sb fun x st1 => (co env st1).sb fun w st2 => (ci env st2).sb fun j st3 => sixW env w j x st3 := rfl

@[simp] theorem x_gN (i : Nat) (w : Wv) (env : En) : gN i w env = some (env.set i (some w)) := rfl
@[simp] theorem x_gTp (g : List PyData → En → Option En) (xs : List PyData) (env : En) : gTp g (.d (.tuple xs)) env = g xs env := rfl
@[simp] theorem x_gNl (env : En) : gNl [] env = some env := rfl
@[simp] theorem x_gCn (g : Wv → En → Option En) (h : List PyData → En → Option En) (x : PyData) (r : List PyData) (env : En) : gCn g h (x :: r) env = (g (.d x) env).bind (h r) := rfl
@[simp] theorem x_mk (np N : Nat) (b : En → Sto → SR) (ws : List Wv) (st : Sto) : mkF np N b ws st = if ws.length = np then endS st.length (b (ws.map some ++ List.replicate (N - ws.length) none) st) else .no := rfl
@[simp] theorem x_end_nx (n : Nat) (env : En) (st : Sto) : endS n (.nx env st) = .ok (.d .none) (st.take n) := rfl
@[simp] theorem x_end_d (n : Nat) (x : PyData) (st : Sto) : endS n (.rt (.w (.d x)) st) = .ok (.d x) (st.take n) := rfl
@[simp] theorem x_end_fd (n : Nat) (x : PyData) (st : Sto) : endS n (.rt (.f (Wv.d x)) st) = .ok (.d x) (st.take n) := rfl
theorem x_end_fr {n i : Nat} {st : Sto} {xs : List PyData} (hi : n ≤ i) (h : st[i]? = some (.lst xs)) : endS n (.rt (.f (.r i)) st) = .ok (.d (.list xs)) (st.take n) := by
  show (match frzW n st (.r i) with | some x => Rs.ok (Wv.d x) (st.take n) | none => .no) = _
  unfold frzW
  simp [hi, h]
theorem x_end_r {n i : Nat} {st : Sto} {o : Ob} (hi : n ≤ i) (h : st[i]? = some o) : endS n (.rt (.w (.r i)) st) = .ok (.r n) (st.take n ++ [o]) := by
  show (if i < n then Rs.ok (Wv.r i) (st.take n) else match st[i]? with | some o => Rs.ok (Wv.r n) (st.take n ++ [o]) | none => .no) = _
  rw [if_neg (by omega), h]

/-! ## the operations on data -/
@[simp] theorem o_add_i (i j : Int) : addD (.int i) (.int j) = some (.int (i + j)) := rfl
@[simp] theorem o_add_t (xs ys : List PyData) : addD (.tuple xs) (.tuple ys) = if xs.length + ys.length ≤ 1000000 then some (.tuple (xs ++ ys)) else none := rfl
@[simp] theorem o_add_l (xs ys : List PyData) : addD (.list xs) (.list ys) = if xs.length + ys.length ≤ 1000000 then some (.list (xs ++ ys)) else none := rfl
@[simp] theorem o_sub_i (i j : Int) : subD (.int i) (.int j) = some (.int (i - j)) := rfl
@[simp] theorem o_mul_i (i j : Int) : mulD (.int i) (.int j) = if bigOk i j = true then some (.int (i * j)) else none := rfl
@[simp] theorem o_mul_t (xs : List PyData) (k : Int) : mulD (.tuple xs) (.int k) = if k = 1 then some (.tuple xs) else if 2 ≤ k ∧ k ≤ 1000 ∧ xs.length ≤ 1000 ∧ xs ≠ [] then some (.tuple (List.replicate k.toNat xs).flatten) else none := rfl
@[simp] theorem o_mul_l (xs : List PyData) (k : Int) : mulD (.list xs) (.int k) = if 0 ≤ k ∧ k ≤ 1000 ∧ xs.length ≤ 1000 then some (.list (List.replicate k.toNat xs).flatten) else none := rfl
@[simp] theorem o_div_i (i j : Int) : divD (.int i) (.int j) = if 0 < j ∧ j < 1073741824 then some (.int (i / j)) else none := rfl
@[simp] theorem o_mod_i (i j : Int) : modD (.int i) (.int j) = if 0 < j then some (.int (i % j)) else none := rfl
@[simp] theorem o_pow_i (i j : Int) : powD (.int i) (.int j) = if 0 ≤ j ∧ j ≤ 1000 ∧ i.natAbs < 18446744073709551616 then some (.int (i ^ j.toNat)) else none := rfl
@[simp] theorem o_neg_i (i : Int) : negD (.int i) = some (.int (-i)) := rfl
@[simp] theorem o_eq_i (i j : Int) : eqD (.int i) (.int j) = some (.bool (i == j)) := rfl
@[simp] theorem o_ne_i (i j : Int) : neD (.int i) (.int j) = some (.bool (!(i == j))) := rfl
@[simp] theorem o_eq_b (i j : Bool) : eqD (.bool i) (.bool j) = some (.bool (i == j)) := rfl
@[simp] theorem o_ne_b (i j : Bool) : neD (.bool i) (.bool j) = some (.bool (!(i == j))) := rfl
@[simp] theorem o_eq_s (i j : Str) : eqD (.str i) (.str j) = some (.bool (i == j)) := rfl
@[simp] theorem o_ne_s (i j : Str) : neD (.str i) (.str j) = some (.bool (!(i == j))) := rfl
@[simp] theorem o_lt_i (i j : Int) : ltD (.int i) (.int j) = some (.bool (decide (i < j))) := rfl
@[simp] theorem o_gt_i (i j : Int) : gtD (.int i) (.int j) = some (.bool (decide (j < i))) := rfl
@[simp] theorem o_le_i (i j : Int) : leD (.int i) (.int j) = some (.bool (decide (i ≤ j))) := rfl
@[simp] theorem o_ge_i (i j : Int) : geD (.int i) (.int j) = some (.bool (decide (j ≤ i))) := rfl
@[simp] theorem o_is_n (a : PyData) : isND a .none = some (.bool (isNone a)) := rfl
@[simp] theorem o_nt_n (a : PyData) : ntND a .none = some (.bool (!isNone a)) := rfl
@[simp] theorem o_ix_t (xs : List PyData) (i : Int) : ixD (.tuple xs) (.int i) = atD xs i := rfl
@[simp] theorem o_ix_l (xs : List PyData) (i : Int) : ixD (.list xs) (.int i) = atD xs i := rfl
@[simp] theorem o_sl_t (xs : List PyData) (i j : Option Int) : slD i j (.tuple xs) = some (.tuple (cutD xs i j)) := rfl
@[simp] theorem o_sl_l (xs : List PyData) (i j : Option Int) : slD i j (.list xs) = some (.list (cutD xs i j)) := rfl
@[simp] theorem o_len_t (xs : List PyData) : lenF [.tuple xs] = some (.int xs.length) := rfl
@[simp] theorem o_len_l (xs : List PyData) : lenF [.list xs] = some (.int xs.length) := rfl
@[simp] theorem o_tup_t (xs : List PyData) : tupF [.tuple xs] = some (.tuple xs) := rfl
@[simp] theorem o_tup_l (xs : List PyData) : tupF [.list xs] = some (.tuple xs) := rfl
@[simp] theorem o_lst_t (xs : List PyData) : lstF [.tuple xs] = some (.list xs) := rfl
@[simp] theorem o_lst_l (xs : List PyData) : lstF [.list xs] = some (.list xs) := rfl
@[simp] theorem o_int_i (i : Int) : intF [.int i] = some (.int i) := rfl
@[simp] theorem o_int_b (b : Bool) : intF [.bool b] = some (.int (if b then 1 else 0)) := rfl
@[simp] theorem o_rev_t (xs : List PyData) : revD (.tuple xs) = some (.tuple xs.reverse) := rfl
@[simp] theorem o_rev_l (xs : List PyData) : revD (.list xs) = some (.list xs.reverse) := rfl
@[simp] theorem o_max2 (i j : Int) : max2F [.int i, .int j] = some (.int (if j > i then j else i)) := rfl
@[simp] theorem o_min2 (i j : Int) : min2F [.int i, .int j] = some (.int (if j < i then j else i)) := rfl
@[simp] theorem o_all (bs : List Bool) : allF [.list (bs.map .bool)] = some (.bool (bs.all id)) := by show (boolsOf _).map _ = _; rw [boolsOf_map]; rfl
@[simp] theorem o_any (bs : List Bool) : anyF [.list (bs.map .bool)] = some (.bool (bs.any id)) := by show (boolsOf _).map _ = _; rw [boolsOf_map]; rfl
@[simp] theorem o_sum_l (ns : List Int) : sumF [.list (ns.map .int)] = some (.int ns.sum) := by show (intsOf _).map _ = _; rw [intsOf_map]; rfl
@[simp] theorem o_sum_t (ns : List Int) : sumF [.tuple (ns.map .int)] = some (.int ns.sum) := by show (intsOf _).map _ = _; rw [intsOf_map]; rfl
@[simp] theorem tru_i (i : Int) (st : Sto) : tru (.d (.int i)) st = .ok (!(i == 0)) st := rfl
theorem atD_nat {α : Type} {xs : List α} {i : Nat} : atD xs (i : Nat) = xs[i]? := by
  unfold atD
  unfold ixN
  rw [if_pos (by omega)]
  split
  · simp
  · simp; omega
@[simp] theorem atD_0 {α : Type} (x : α) (xs : List α) : atD (x :: xs) 0 = some x := atD_nat (i := 0)
@[simp] theorem atD_1 {α : Type} (x y : α) (xs : List α) : atD (x :: y :: xs) 1 = some y := atD_nat (i := 1)
@[simp] theorem atD_2 {α : Type} (x y z : α) (xs : List α) : atD (x :: y :: z :: xs) 2 = some z := atD_nat (i := 2)
@[simp] theorem atD_3 {α : Type} (x y z w : α) (xs : List α) : atD (x :: y :: z :: w :: xs) 3 = some w := atD_nat (i := 3)
@[simp] theorem isa_int_none  : isaD "int" .none = some (.bool false) := rfl
@[simp] theorem isa_int_bool (b : Bool) : isaD "int" (.bool b) = some (.bool true) := rfl
@[simp] theorem isa_int_int (i : Int) : isaD "int" (.int i) = some (.bool true) := rfl
@[simp] theorem isa_int_str (x : Str) : isaD "int" (.str x) = some (.bool false) := rfl
@[simp] theorem isa_int_list (xs : List PyData) : isaD "int" (.list xs) = some (.bool false) := rfl
@[simp] theorem isa_int_tuple (xs : List PyData) : isaD "int" (.tuple xs) = some (.bool false) := rfl
@[simp] theorem isa_int_dict (es : List (PyData × PyData)) : isaD "int" (.dict es) = some (.bool false) := rfl
@[simp] theorem isa_bool_none  : isaD "bool" .none = some (.bool false) := rfl
@[simp] theorem isa_bool_bool (b : Bool) : isaD "bool" (.bool b) = some (.bool true) := rfl
@[simp] theorem isa_bool_int (i : Int) : isaD "bool" (.int i) = some (.bool false) := rfl
@[simp] theorem isa_bool_str (x : Str) : isaD "bool" (.str x) = some (.bool false) := rfl
@[simp] theorem isa_bool_list (xs : List PyData) : isaD "bool" (.list xs) = some (.bool false) := rfl
@[simp] theorem isa_bool_tuple (xs : List PyData) : isaD "bool" (.tuple xs) = some (.bool false) := rfl
@[simp] theorem isa_bool_dict (es : List (PyData × PyData)) : isaD "bool" (.dict es) = some (.bool false) := rfl
@[simp] theorem isa_str_none  : isaD "str" .none = some (.bool false) := rfl
@[simp] theorem isa_str_bool (b : Bool) : isaD "str" (.bool b) = some (.bool false) := rfl
@[simp] theorem isa_str_int (i : Int) : isaD "str" (.int i) = some (.bool false) := rfl
@[simp] theorem isa_str_str (x : Str) : isaD "str" (.str x) = some (.bool true) := rfl
@[simp] theorem isa_str_list (xs : List PyData) : isaD "str" (.list xs) = some (.bool false) := rfl
@[simp] theorem isa_str_tuple (xs : List PyData) : isaD "str" (.tuple xs) = some (.bool false) := rfl
@[simp] theorem isa_str_dict (es : List (PyData × PyData)) : isaD "str" (.dict es) = some (.bool false) := rfl
@[simp] theorem isa_tuple_none  : isaD "tuple" .none = some (.bool false) := rfl
@[simp] theorem isa_tuple_bool (b : Bool) : isaD "tuple" (.bool b) = some (.bool false) := rfl
@[simp] theorem isa_tuple_int (i : Int) : isaD "tuple" (.int i) = some (.bool false) := rfl
@[simp] theorem isa_tuple_str (x : Str) : isaD "tuple" (.str x) = some (.bool false) := rfl
@[simp] theorem isa_tuple_list (xs : List PyData) : isaD "tuple" (.list xs) = some (.bool false) := rfl
@[simp] theorem isa_tuple_tuple (xs : List PyData) : isaD "tuple" (.tuple xs) = some (.bool true) := rfl
@[simp] theorem isa_tuple_dict (es : List (PyData × PyData)) : isaD "tuple" (.dict es) = some (.bool false) := rfl
@[simp] theorem isa_list_none  : isaD "list" .none = some (.bool false) := rfl
@[simp] theorem isa_list_bool (b : Bool) : isaD "list" (.bool b) = some (.bool false) := rfl
@[simp] theorem isa_list_int (i : Int) : isaD "list" (.int i) = some (.bool false) := rfl
@[simp] theorem isa_list_str (x : Str) : isaD "list" (.str x) = some (.bool false) := rfl
@[simp] theorem isa_list_list (xs : List PyData) : isaD "list" (.list xs) = some (.bool true) := rfl
@[simp] theorem isa_list_tuple (xs : List PyData) : isaD "list" (.tuple xs) = some (.bool false) := rfl
@[simp] theorem isa_list_dict (es : List (PyData × PyData)) : isaD "list" (.dict es) = some (.bool false) := rfl
@[simp] theorem isa_dict_none  : isaD "dict" .none = some (.bool false) := rfl
@[simp] theorem isa_dict_bool (b : Bool) : isaD "dict" (.bool b) = some (.bool false) := rfl
@[simp] theorem isa_dict_int (i : Int) : isaD "dict" (.int i) = some (.bool false) := rfl
@[simp] theorem isa_dict_str (x : Str) : isaD "dict" (.str x) = some (.bool false) := rfl
@[simp] theorem isa_dict_list (xs : List PyData) : isaD "dict" (.list xs) = some (.bool false) := rfl
@[simp] theorem isa_dict_tuple (xs : List PyData) : isaD "dict" (.tuple xs) = some (.bool false) := rfl
@[simp] theorem isa_dict_dict (es : List (PyData × PyData)) : isaD "dict" (.dict es) = some (.bool true) := rfl
@[simp] theorem isN_n : isNone .none = true := rfl
@[simp] theorem isN_bool (b : Bool) : isNone (.bool b) = false := rfl
@[simp] theorem isN_int (i : Int) : isNone (.int i) = false := rfl
@[simp] theorem isN_str (x : Str) : isNone (.str x) = false := rfl
@[simp] theorem isN_list (xs : List PyData) : isNone (.list xs) = false := rfl
@[simp] theorem isN_tuple (xs : List PyData) : isNone (.tuple xs) = false := rfl
@[simp] theorem isN_dict (es : List (PyData × PyData)) : isNone (.dict es) = false := rfl
end

section
variable [Wtp] [Tbl]

/-! ## the store -/
@[simp] theorem end_new (st : Sto) (o : Ob) : endS st.length (.rt (.w (.r st.length)) (st ++ [o])) = .ok (.r st.length) (st ++ [o]) := by
  rw [x_end_r (o := o) (Nat.le_refl _) (by simp)]
  simp
@[simp] theorem take_set {α : Type} (xs : List α) (p : Nat) (x : α) : (xs.set p x).take xs.length = xs.set p x := List.take_of_length_le (by simp)
theorem look_l {i : Nat} {st : Sto} {xs : List PyData} (h : st[i]? = some (.lst xs)) : look st (.r i) = some (.list xs) := by
  show (match st[i]? with
    | some (.lst xs) => some (PyData.list xs)
    | some (.dct kvs) => some (.dict kvs)
    | some (.dtt kvs) => some (.dict kvs)
    | some (.lkd kvs) => some (.dict kvs)
    | some (.lkl xs) => some (.list xs)
    | none => none) = _
  rw [h]
theorem look1_l {i : Nat} {st : Sto} {xs : List PyData} (h : st[i]? = some (.lst xs)) (f : PyData → Rs Wv) : look1 (.r i) st f = f (.list xs) := by
  unfold look1
  rw [look_l h]
theorem isLst_l {i : Nat} {st : Sto} {xs : List PyData} (h : st[i]? = some (.lst xs)) : isLst st (.r i) = true := by
  unfold isLst
  simp [h]
theorem appW_l {i : Nat} {st : Sto} {xs : List PyData} (h : st[i]? = some (.lst xs)) (hl : xs.length < 1000000) (y : PyData) : appW (.r i) [.d y] st = .ok (.d .none) (st.set i (.lst (xs ++ [y]))) := by
  unfold appW
  simp [h, hl]
theorem setW_l {i : Nat} {st : Sto} {xs : List PyData} (h : st[i]? = some (.lst xs)) {t : Int} {q : Nat} (hq : ixN xs.length t = some q) (y : PyData) : setW (.r i) (.d (.int t)) y st = some (st.set i (.lst (xs.set q y))) := by
  unfold setW
  simp [h, hq]
theorem ixN_nat {n i : Nat} (h : i < n) : ixN n (i : Int) = some i := by
  unfold ixN
  rw [if_pos (by omega), if_pos (by omega)]
  simp
/-! ## pens: lists of three ints -/
def Pen (p : Nat) (st : Sto) : Prop := ∃ a b c : Int, st[p]? = some (.lst [.int a, .int b, .int c])
/-- only the pen at p is turned -/
structure Pn (p : Nat) (st st' : Sto) : Prop where
  len : st'.length = st.length
  pen : Pen p st'
  sm : ∀ i, i ≠ p → st'[i]? = st[i]?
/-- below n only the pen at p is turned -/
structure Px (p n : Nat) (st st' : Sto) : Prop where
  le : n ≤ st'.length
  pen : Pen p st'
  sm : ∀ i, i < n → i ≠ p → st'[i]? = st[i]?
section
variable {p n : Nat} {st st1 st2 : Sto}
theorem Pen.lt (h : Pen p st) : p < st.length := by
  obtain ⟨_, _, _, e⟩ := h
  exact (List.getElem?_eq_some_iff.mp e).1
theorem Pn.refl (h : Pen p st) : Pn p st st := ⟨rfl, h, fun _ _ => rfl⟩
theorem Pn.trans (a : Pn p st st1) (b : Pn p st1 st2) : Pn p st st2 := ⟨b.len.trans a.len, b.pen, fun i hi => (b.sm i hi).trans (a.sm i hi)⟩
theorem Pn.set (h : Pen p st) (a b c : Int) : Pn p st (st.set p (.lst [.int a, .int b, .int c])) :=
  ⟨by simp, ⟨a, b, c, List.getElem?_set_self h.lt⟩, fun i hi => List.getElem?_set_ne (Ne.symm hi)⟩
theorem Pen.app (h : Pen p st) (l : Sto) : Pen p (st ++ l) := by
  obtain ⟨a, b, c, e⟩ := id h
  exact ⟨a, b, c, by rw [List.getElem?_append_left h.lt]; exact e⟩
theorem Pen.put (h : Pen p st) {i : Nat} (hi : i ≠ p) (o : Ob) : Pen p (st.set i o) := by
  obtain ⟨a, b, c, e⟩ := id h
  exact ⟨a, b, c, by rw [List.getElem?_set_ne hi]; exact e⟩
theorem Px.refl (h : Pen p st) : Px p st.length st st := ⟨Nat.le_refl _, h, fun _ _ _ => rfl⟩
theorem Px.pn (a : Px p n st st1) (b : Pn p st1 st2) : Px p n st st2 := ⟨by rw [b.len]; exact a.le, b.pen, fun i hi hp => (b.sm i hp).trans (a.sm i hi hp)⟩
theorem Px.app (a : Px p n st st1) (l : Sto) : Px p n st (st1 ++ l) := ⟨by rw [List.length_append]; have := a.le; omega, a.pen.app l, fun i hi hp => by rw [List.getElem?_append_left (Nat.lt_of_lt_of_le hi a.le)]; exact a.sm i hi hp⟩
theorem Px.put (a : Px p n st st1) {i : Nat} (hi : n ≤ i) (hp : p < n) (o : Ob) : Px p n st (st1.set i o) :=
  ⟨by rw [List.length_set]; exact a.le, a.pen.put (by omega) o, fun j hj hq => by rw [List.getElem?_set_ne (by omega)]; exact a.sm j hj hq⟩
theorem Px.back (a : Px p st.length st st1) (hp : p < st.length) : Pn p st (st1.take st.length) := by
  have hl : (st1.take st.length).length = st.length := by rw [List.length_take]; have := a.le; omega
  refine ⟨hl, ?_, fun i hi => ?_⟩
  · obtain ⟨x, y, z, e⟩ := a.pen
    exact ⟨x, y, z, by rw [List.getElem?_take_of_lt hp]; exact e⟩
  · by_cases q : i < st.length
    · rw [List.getElem?_take_of_lt q]; exact a.sm i q hi
    · rw [List.getElem?_eq_none (by omega), List.getElem?_eq_none (by omega)]
theorem Pn.px (a : Pn p st st1) : Px p st.length st st1 := ⟨Nat.le_of_eq a.len.symm, a.pen, fun i _ hp => a.sm i hp⟩
end
theorem rg_ok {i : Int} (h1 : -1000000 ≤ i) (h2 : i ≤ 1000000) : rgOk i = true := by
  unfold rgOk
  rw [decide_eq_true (by omega), decide_eq_true (by omega)]
  rfl
theorem rg1_ok {i : Int} (st : Sto) (h1 : -1000000 ≤ i) (h2 : i ≤ 1000000) : rg1W [.d (.int i)] st = .ok ⟨rangeD 0 i.toNat, []⟩ st := by
  unfold rg1W
  simp [rg_ok h1 h2]
theorem rangeD_len (lo : Int) (n : Nat) : (rangeD lo n).length = n := by simp [rangeD]
theorem rangeD_get {lo : Int} {n i : Nat} {x : PyData} (h : (rangeD lo n)[i]? = some x) : i < n ∧ x = .int (lo + (i : Nat)) := by
  have hi : i < n := by have := (List.getElem?_eq_some_iff.mp h).1; rwa [rangeD_len] at this
  refine ⟨hi, ?_⟩
  unfold rangeD at h
  simp [hi] at h
  exact h.symm
theorem atD_mem {α : Type} {xs : List α} {i : Int} (h1 : 0 ≤ i) (h2 : i < xs.length) : ∃ x, x ∈ xs ∧ atD xs i = some x := by
  obtain ⟨k, rfl⟩ := Int.eq_ofNat_of_zero_le h1
  have hk : k < xs.length := by simpa using h2
  exact ⟨xs[k], List.getElem_mem hk, by rw [atD_nat, List.getElem?_eq_getElem hk]⟩
theorem atD_at {α : Type} {xs : List α} {i : Int} (h1 : 0 ≤ i) (h2 : i < xs.length) : ∃ (k : Nat) (hk : k < xs.length), i = (k : Int) ∧ atD xs i = some xs[k] := by
  obtain ⟨k, rfl⟩ := Int.eq_ofNat_of_zero_le h1
  have hk : k < xs.length := by simpa using h2
  exact ⟨k, hk, rfl, by rw [atD_nat, List.getElem?_eq_getElem hk]⟩

/-! ## loops on data -/
@[simp] theorem forL_nil (g : Wv → En → Option En) (b : En → Sto → SR) (env : En) (st : Sto) : forL g b [] [] env st = .nx env st := by simp [forL]
@[simp] theorem forL_cons (g : Wv → En → Option En) (b : En → Sto → SR) (x : PyData) (r : List PyData) (env : En) (st : Sto) : forL g b [] (x :: r) env st = match g (.d x) env with
    | some env1 => (b env1 st).seq (forL g b [] r)
    | none => .no := by cases h : g (.d x) env <;> simp [forL, h]
/-- every turn goes on -/
theorem forL_go {g : Wv → En → Option En} {b : En → Sto → SR} (I : En → Sto → Prop) : ∀ (xs : List PyData), (∀ x ∈ xs, ∀ env st, I env st → ∃ env1 env2 st2, g (.d x) env = some env1 ∧ b env1 st = .nx env2 st2 ∧ I env2 st2) →
    ∀ env st, I env st → ∃ env2 st2, forL g b [] xs env st = .nx env2 st2 ∧ I env2 st2
  | [], _, env, st, h => ⟨env, st, by simp, h⟩
  | x :: xs, q, env, st, h => by
    obtain ⟨env1, env2, st2, e1, e2, h2⟩ := q x (by simp) env st h
    obtain ⟨env3, st3, e3, h3⟩ := forL_go I xs (fun y hy => q y (by simp [hy])) env2 st2 h2
    exact ⟨env3, st3, by rw [forL_cons, e1]; simp [e2, e3], h3⟩
/-- every turn goes on, by its number -/
theorem forL_goI {g : Wv → En → Option En} {b : En → Sto → SR} (I : Nat → En → Sto → Prop) : ∀ (xs : List PyData) (k : Nat), (∀ i x, xs[i]? = some x → ∀ env st, I (k + i) env st → ∃ env1 env2 st2, g (.d x) env = some env1 ∧ b env1 st = .nx env2 st2 ∧ I (k + i + 1) env2 st2) →
    ∀ env st, I k env st → ∃ env2 st2, forL g b [] xs env st = .nx env2 st2 ∧ I (k + xs.length) env2 st2
  | [], k, _, env, st, h => ⟨env, st, by simp, h⟩
  | x :: xs, k, q, env, st, h => by
    obtain ⟨env1, env2, st2, e1, e2, h2⟩ := q 0 x rfl env st h
    obtain ⟨env3, st3, e3, h3⟩ := forL_goI I xs (k + 1) (fun i y hy env st hI => by
      have := q (i + 1) y (by simpa using hy) env st (by rw [show k + (i + 1) = k + 1 + i by omega]; exact hI)
      rw [show k + (i + 1) + 1 = k + 1 + i + 1 by omega] at this
      exact this) env2 st2 h2
    exact ⟨env3, st3, by rw [forL_cons, e1]; simp [e2, e3], by rw [List.length_cons, show k + (xs.length + 1) = k + 1 + xs.length by omega]; exact h3⟩
/-- a turn goes on where p holds, else it returns r -/
theorem forL_all {g : Wv → En → Option En} {b : En → Sto → SR} {st : Sto} {r : Rt} (p : PyData → Bool) (I : En → Prop) : ∀ (xs : List PyData), (∀ x ∈ xs, ∀ env, I env → ∃ env1, g (.d x) env = some env1 ∧ (p x = true → ∃ env2, b env1 st = .nx env2 st ∧ I env2) ∧ (p x = false → b env1 st = .rt r st)) →
    ∀ env, I env → (xs.all p = true → ∃ env2, forL g b [] xs env st = .nx env2 st ∧ I env2) ∧ (xs.all p = false → forL g b [] xs env st = .rt r st)
  | [], _, env, h => ⟨fun _ => ⟨env, by simp, h⟩, fun z => by simp at z⟩
  | x :: xs, q, env, h => by
    obtain ⟨env1, e1, e2, e3⟩ := q x (by simp) env h
    cases hp : p x with
    | true =>
      obtain ⟨env2, e2, h2⟩ := e2 hp
      obtain ⟨i1, i2⟩ := forL_all p I xs (fun y hy => q y (by simp [hy])) env2 h2
      rw [List.all_cons, hp, Bool.true_and]
      refine ⟨fun z => ?_, fun z => ?_⟩
      · obtain ⟨env3, e4, h3⟩ := i1 z
        exact ⟨env3, by rw [forL_cons, e1]; simp [e2, e4], h3⟩
      · rw [forL_cons, e1]; simp [e2, i2 z]
    | false =>
      rw [List.all_cons, hp, Bool.false_and]
      exact ⟨fun z => (Bool.false_ne_true z).elim, fun _ => by rw [forL_cons, e1]; simp [e3 hp]⟩
/-- a comprehension of a pure part -/
theorem lcL_map {g : Wv → En → Option En} {c : En → Sto → Rs Wv} {env : En} {st : Sto} {f : PyData → PyData} : ∀ (xs acc : List PyData), (∀ x ∈ xs, ∃ env1, g (.d x) env = some env1 ∧ c env1 st = .ok (.d (f x)) st) → lcL g tYs c [] env xs acc st = .ok (acc ++ xs.map f) st
  | [], acc, _ => by simp [lcL]
  | x :: xs, acc, q => by
    obtain ⟨env1, e1, e2⟩ := q x (by simp)
    have ih := lcL_map (f := f) (g := g) (c := c) (env := env) (st := st) xs (acc ++ [f x]) fun y hy => q y (by simp [hy])
    simp [lcL, e1, e2, ih]
/-- a comprehension with a test -/
theorem lcL_filter {g : Wv → En → Option En} {t : En → Sto → Rs Bool} {c : En → Sto → Rs Wv} {env : En} {st : Sto} {p : PyData → Bool} {f : PyData → PyData} : ∀ (xs acc : List PyData), (∀ x ∈ xs, ∃ env1, g (.d x) env = some env1 ∧ t env1 st = .ok (p x) st ∧ (p x = true → c env1 st = .ok (.d (f x)) st)) →
    lcL g t c [] env xs acc st = .ok (acc ++ (xs.filter p).map f) st
  | [], acc, _ => by simp [lcL]
  | x :: xs, acc, q => by
    obtain ⟨env1, e1, e2, e3⟩ := q x (by simp)
    cases hp : p x with
    | true =>
      have ih := lcL_filter (p := p) (f := f) (g := g) (t := t) (c := c) (env := env) (st := st) xs (acc ++ [f x]) fun y hy => q y (by simp [hy])
      simp [lcL, e1, e2, hp, e3 hp, ih]
    | false =>
      have ih := lcL_filter (p := p) (f := f) (g := g) (t := t) (c := c) (env := env) (st := st) xs acc fun y hy => q y (by simp [hy])
      simp [lcL, e1, e2, hp, ih]
theorem o_all' {α : Type} (xs : List α) (p : α → Bool) : allF [.list (xs.map fun x => .bool (p x))] = some (.bool (xs.all p)) := by
  have := o_all (xs.map p)
  rw [List.map_map] at this
  rw [show (fun x => PyData.bool (p x)) = PyData.bool ∘ p from rfl, this, List.all_map]
  rfl
theorem o_any' {α : Type} (xs : List α) (p : α → Bool) : anyF [.list (xs.map fun x => .bool (p x))] = some (.bool (xs.any p)) := by
  have := o_any (xs.map p)
  rw [List.map_map] at this
  rw [show (fun x => PyData.bool (p x)) = PyData.bool ∘ p from rfl, this, List.any_map]
  rfl
theorem cutD_drop {α : Type} (xs : List α) (i : Nat) : cutD xs (some (i : Int)) none = xs.drop i := by
  unfold cutD
  rw [HT.sIx_nat, HT.sIx_none]
  rcases Nat.le_total i xs.length with h | h
  · rw [Nat.min_eq_left h, List.take_of_length_le (by simp)]
  · rw [Nat.min_eq_right h, List.drop_eq_nil_of_le h, List.drop_eq_nil_of_le (Nat.le_refl _)]; simp
theorem cutD_take {α : Type} (xs : List α) (i : Nat) : cutD xs none (some (i : Int)) = xs.take i := by
  unfold cutD
  rw [HT.sIx_nat, HT.sIx_none]
  simp
theorem cutD_sub {α : Type} {xs : List α} {lo hi : Option Int} {x : α} (h : x ∈ cutD xs lo hi) : x ∈ xs := List.mem_of_mem_drop (List.mem_of_mem_take h)
theorem cutD_len {α : Type} {xs : List α} {lo hi : Option Int} : (cutD xs lo hi).length ≤ xs.length := by
  unfold cutD
  rw [List.length_take, List.length_drop]
  omega

/-! ## what can be shown -/
structure Fd (k n : Nat) (d : PyData) : Prop where
  sh : d.showable = true
  hd : d.hasDict = false
  dp : d.depth ≤ k
  ln : d.shown.length ≤ n
theorem Fd.up {k k' n n' : Nat} {d : PyData} (f : Fd k n d) (h : k ≤ k') (h' : n ≤ n') : Fd k' n' d := ⟨f.sh, f.hd, Nat.le_trans f.dp h, Nat.le_trans f.ln h'⟩
theorem fd_none : Fd 0 4 .none := ⟨rfl, rfl, Nat.le_refl _, by decide +kernel⟩
theorem fd_bool (b : Bool) : Fd 0 5 (.bool b) := ⟨rfl, rfl, Nat.le_refl _, by cases b <;> decide +kernel⟩
theorem fd_int {i : Int} (h : i.natAbs < 10 ^ 40) : Fd 0 41 (.int i) := by
  refine ⟨?_, rfl, Nat.le_refl _, ?_⟩
  · show decide (i.natAbs.log2 < 1920) = true
    rw [decide_eq_true_eq]
    by_cases e : i.natAbs = 0
    · rw [e]; decide
    · rw [Nat.log2_lt e]
      exact Nat.lt_of_lt_of_le h (by decide +kernel)
  · show (Str.ofString (toString i)).length ≤ 41
    rw [ofString_len]
    exact int_text_length_le10 (by decide) h
theorem piled_le {n : Nat} : ∀ {ts : List Str}, (∀ t ∈ ts, t.length ≤ n) → piled ts ≤ ts.length * (n + 2)
  | [], _ => by simp [piled]
  | t :: ts, h => by
    have ih := piled_le (n := n) (ts := ts) fun u hu => h u (by simp [hu])
    have h1 := h t (by simp)
    rw [piled_cons, List.length_cons, Nat.succ_mul]
    omega
theorem join_le (ts : List Str) : (Str.join ", " ts).length ≤ piled ts := by
  by_cases h : ts = []
  · subst h; simp [piled]; rfl
  · have := join_length_add ts h; omega
theorem shownAll_map : ∀ xs : List PyData, PyData.shownAll xs = xs.map PyData.shown
  | [] => rfl
  | x :: xs => by rw [PyData.shownAll, shownAll_map xs]; rfl
theorem showableAll_all : ∀ xs : List PyData, PyData.showableAll xs = xs.all PyData.showable
  | [] => rfl
  | x :: xs => by rw [PyData.showableAll, showableAll_all xs]; rfl
theorem hasDictAll_any : ∀ xs : List PyData, PyData.hasDictAll xs = xs.any PyData.hasDict
  | [] => rfl
  | x :: xs => by rw [PyData.hasDictAll, hasDictAll_any xs]; rfl
theorem depthAll_le {k : Nat} : ∀ {xs : List PyData}, (∀ x ∈ xs, x.depth ≤ k) → PyData.depthAll xs ≤ k
  | [], _ => Nat.zero_le _
  | x :: xs, h => by
    rw [PyData.depthAll]
    exact Nat.max_le.mpr ⟨h x (by simp), depthAll_le fun y hy => h y (by simp [hy])⟩
theorem fd_tup {k n : Nat} {xs : List PyData} (L : Nat) (h : ∀ x ∈ xs, Fd k n x) (hl : xs.length ≤ L) : Fd (k + 1) (L * (n + 2) + 3) (.tuple xs) := by
  refine ⟨?_, ?_, Nat.succ_le_succ (depthAll_le fun x hx => (h x hx).dp), ?_⟩
  · rw [PyData.showable, showableAll_all, List.all_eq_true]; exact fun x hx => (h x hx).sh
  · rw [PyData.hasDict, hasDictAll_any, List.any_eq_false]; exact fun x hx => by rw [(h x hx).hd]; exact Bool.false_ne_true
  · show (tupleText (PyData.shownAll xs)).length ≤ _
    rw [shownAll_map]
    unfold tupleText
    rw [strLen_append, strLen_append]
    have e1 : ((("(" : String) : Str)).length = 1 := rfl
    have e3 : (((if (xs.map PyData.shown).length == 1 then ",)" else ")" : String) : Str)).length ≤ 2 := by split <;> decide
    have h4 := join_le (xs.map PyData.shown)
    have h5 := piled_le (n := n) (ts := xs.map PyData.shown) fun t ht => by
      obtain ⟨x, hx, rfl⟩ := List.mem_map.mp ht
      exact (h x hx).ln
    rw [List.length_map] at h5
    have h6 : xs.length * (n + 2) ≤ L * (n + 2) := Nat.mul_le_mul_right _ hl
    rw [e1]
    omega
theorem textFrom_le : ∀ (ts : List Str) (k : Nat) (acc : Str), (textFrom k acc ts).length ≤ acc.length + piled ts
  | [], k, acc => by simp [textFrom, piled]
  | t :: ts, k, acc => by
    have ih := textFrom_le ts (k + 1) (acc ++ (if k > 0 then ", " else "" : String) ++ t)
    rw [strLen_append, strLen_append] at ih
    have e3 : (((if k > 0 then ", " else "" : String) : Str)).length ≤ 2 := by split <;> decide
    rw [piled_cons]
    unfold textFrom
    omega
theorem fd_lst {k n : Nat} {xs : List PyData} (L : Nat) (h : ∀ x ∈ xs, Fd k n x) (hl : xs.length ≤ L) : Fd (k + 1) (L * (n + 2) + 3) (.list xs) := by
  refine ⟨?_, ?_, Nat.succ_le_succ (depthAll_le fun x hx => (h x hx).dp), ?_⟩
  · rw [PyData.showable, showableAll_all, List.all_eq_true]; exact fun x hx => (h x hx).sh
  · rw [PyData.hasDict, hasDictAll_any, List.any_eq_false]; exact fun x hx => by rw [(h x hx).hd]; exact Bool.false_ne_true
  · show (listText (PyData.shownAll xs)).length ≤ _
    rw [shownAll_map]
    unfold listText
    rw [strLen_append]
    have e1 : ((("[" : String) : Str)).length = 1 := rfl
    have e3 : ((("]" : String) : Str)).length = 1 := rfl
    have h4 := textFrom_le (xs.map PyData.shown) 0 ("[" : Str)
    have h5 := piled_le (n := n) (ts := xs.map PyData.shown) fun t ht => by
      obtain ⟨x, hx, rfl⟩ := List.mem_map.mp ht
      exact (h x hx).ln
    rw [List.length_map] at h5
    have h6 : xs.length * (n + 2) ≤ L * (n + 2) := Nat.mul_le_mul_right _ hl
    omega
/-- repr of what can be shown -/
theorem o_repr {k n : Nat} {d : PyData} (f : Fd k n d) (hk : k ≤ 40) (hn : n ≤ 16000000) : reprF [d] = some (.str d.shown) := by
  have ok : reprOk d = true := by
    unfold reprOk
    have h1 := Nat.le_trans f.dp hk
    have h2 := Nat.le_trans f.ln hn
    simp [f.sh, f.hd, h1, h2]
  unfold reprF
  split
  · rename_i e
    cases e
    exact absurd f.hd (by simp [PyData.hasDict])
  · rename_i d' _ e
    cases e
    rw [if_pos ok]
  · rename_i h1 h2
    exact absurd rfl (h2 d)
theorem o_repr_dict : reprF [.dict []] = some (.str "{}") := rfl
/-! ## slots that nothing reads any more are given up -/
def sWp (vs : List Nat) (b : En → Sto → SR) : En → Sto → SR := fun env st => (b env st).seq fun env1 st1 => .nx (wipeE env1 vs) st1
def sWi (vs : List Nat) (b : En → Sto → SR) : En → Sto → SR := fun env st => b (wipeE env vs) st
theorem EnvR.less {K : Frg} {n : Nat} {H : Hp} {m : Mp} {env : En} {σ : L2.St} (h : EnvR K H m n env σ) (i : Nat) : EnvR K H m n (env.set i none) σ := by
  refine ⟨by simp [h.len], fun j u e => ?_⟩
  by_cases q : i = j
  · subst q
    by_cases l : i < env.length
    · rw [List.getElem?_set_self l] at e; cases e
    · rw [List.getElem?_eq_none (by simpa using l)] at e; cases e
  · rw [List.getElem?_set_ne q] at e
    exact h.at' j u e
theorem EnvR.lesss {K : Frg} {n : Nat} {H : Hp} {m : Mp} {env : En} {σ : L2.St} (h : EnvR K H m n env σ) : ∀ vs : List Nat, EnvR K H m n (wipeE env vs) σ
  | [] => h
  | i :: vs => (EnvR.lesss h vs).less i
theorem db_wp {X : Cx} {es : List Stmt} {c : En → Sto → SR} (vs : List Nat) (h : DB X es c) : DB X es (sWp vs c) := by
  refine ⟨fun W tk => PSs.imp (h.pss W tk) fun D σ H ⟨m, env, st, S, R, hp⟩ => ⟨m, env, st, S, R, ?_⟩⟩
  unfold sWp at hp
  rw [SR.post_seq] at hp
  exact SR.post_mono hp (fun env1 st1 q σ1 H1 m1 f1 S1 R1 => q σ1 H1 m1 f1 S1 (R1.lesss vs)) (fun _ _ q => q) fun _ _ q => q
theorem ds_wi {X : Cx} {e : Stmt} {c : En → Sto → SR} (vs : List Nat) (h : DS X e c) : DS X e (sWi vs c) :=
  ⟨fun W tk => PS.imp (h.ps W tk) fun D σ H ⟨m, env, st, S, R, hp⟩ => ⟨m, wipeE env vs, st, S, R.lesss vs, hp⟩⟩
@[simp] theorem x_wp (vs : List Nat) (b : En → Sto → SR) (env : En) (st : Sto) : sWp vs b env st = (b env st).seq fun env1 st1 => .nx (wipeE env1 vs) st1 := rfl
@[simp] theorem x_wi (vs : List Nat) (b : En → Sto → SR) (env : En) (st : Sto) : sWi vs b env st = b (wipeE env vs) st := rfl
@[simp] theorem wipe_nil (env : En) : wipeE env [] = env := rfl
@[simp] theorem wipe_cons (env : En) (i : Nat) (vs : List Nat) : wipeE env (i :: vs) = (wipeE env vs).set i none := rfl
/-- every turn goes on; what there is behind i turns is known -/
theorem forL_at {g : Wv → En → Option En} {b : En → Sto → SR} (E : Nat → En) (S : Nat → Sto) (xs : List PyData) (h : ∀ i x, xs[i]? = some x → ∃ env1, g (.d x) (E i) = some env1 ∧ b env1 (S i) = .nx (E (i + 1)) (S (i + 1))) :
    forL g b [] xs (E 0) (S 0) = .nx (E xs.length) (S xs.length) := by
  obtain ⟨env, st, e, rfl, rfl⟩ := forL_goI (g := g) (b := b) (fun i env st => env = E i ∧ st = S i) xs 0 (fun i x hx env st hI => by
    rw [Nat.zero_add] at hI ⊢
    obtain ⟨rfl, rfl⟩ := hI
    obtain ⟨env1, e1, e2⟩ := h i x hx
    exact ⟨env1, _, _, e1, e2, rfl, rfl⟩) (E 0) (S 0) ⟨rfl, rfl⟩
  rw [e, Nat.zero_add]
/-- a fold: the state is of a type of its own -/
theorem forL_fold {α β : Type} {g : Wv → En → Option En} {b : En → Sto → SR} (enc : α → PyData) (E : β → En) (S : β → Sto) (f : β → α → β) (I : β → Prop) : ∀ (L : List α), (∀ s a, a ∈ L → I s → ∃ env1, g (.d (enc a)) (E s) = some env1 ∧ b env1 (S s) = .nx (E (f s a)) (S (f s a)) ∧ I (f s a)) →
    ∀ s, I s → forL g b [] (L.map enc) (E s) (S s) = .nx (E (L.foldl f s)) (S (L.foldl f s)) ∧ I (L.foldl f s)
  | [], _, s, hs => ⟨by simp, hs⟩
  | a :: L, h, s, hs => by
    obtain ⟨env1, e1, e2, h2⟩ := h s a (by simp) hs
    obtain ⟨i1, i2⟩ := forL_fold enc E S f I L (fun s x hx => h s x (by simp [hx])) (f s a) h2
    exact ⟨by rw [List.map_cons, forL_cons, e1]; simp [e2, i1], i2⟩
/-- what a loop that only seeks gives -/
def seek (r : Option Rt) (env : En) (st : Sto) : SR := match r with
  | some r => .rt r st
  | none => .nx env st
@[simp] theorem seek_some (r : Rt) (env : En) (st : Sto) : seek (some r) env st = .rt r st := rfl
@[simp] theorem seek_none (env : En) (st : Sto) : seek none env st = .nx env st := rfl
theorem forL_seek {α : Type} {g : Wv → En → Option En} {b : En → Sto → SR} {env : En} {st : Sto} (enc : α → PyData) (q : α → Option Rt) : ∀ (L : List α), (∀ a ∈ L, ∃ env1, g (.d (enc a)) env = some env1 ∧ b env1 st = seek (q a) env st) →
    forL g b [] (L.map enc) env st = seek (L.findSome? q) env st
  | [], _ => by simp
  | a :: L, h => by
    obtain ⟨env1, e1, e2⟩ := h a (by simp)
    rw [List.map_cons, forL_cons, e1, List.findSome?_cons]
    dsimp only
    rw [e2]
    cases q a with
    | none => exact forL_seek enc q L fun x hx => h x (by simp [hx])
    | some r => rfl
/-- a comprehension of typed things -/
theorem lcL_mapE {α : Type} {g : Wv → En → Option En} {c : En → Sto → Rs Wv} {env : En} {st : Sto} (enc out : α → PyData) : ∀ (L : List α) (acc : List PyData), (∀ a ∈ L, ∃ env1, g (.d (enc a)) env = some env1 ∧ c env1 st = .ok (.d (out a)) st) → lcL g tYs c [] env (L.map enc) acc st = .ok (acc ++ L.map out) st
  | [], acc, _ => by simp [lcL]
  | a :: L, acc, q => by
    obtain ⟨env1, e1, e2⟩ := q a (by simp)
    have ih := lcL_mapE (g := g) (c := c) (env := env) (st := st) enc out L (acc ++ [out a]) fun y hy => q y (by simp [hy])
    simp [lcL, e1, e2, ih]
theorem lcL_filterE {α : Type} {g : Wv → En → Option En} {t : En → Sto → Rs Bool} {c : En → Sto → Rs Wv} {env : En} {st : Sto} (enc out : α → PyData) (p : α → Bool) : ∀ (L : List α) (acc : List PyData), (∀ a ∈ L, ∃ env1, g (.d (enc a)) env = some env1 ∧ t env1 st = .ok (p a) st ∧ (p a = true → c env1 st = .ok (.d (out a)) st)) →
    lcL g t c [] env (L.map enc) acc st = .ok (acc ++ (L.filter p).map out) st
  | [], acc, _ => by simp [lcL]
  | a :: L, acc, q => by
    obtain ⟨env1, e1, e2, e3⟩ := q a (by simp)
    have ih := lcL_filterE (g := g) (t := t) (c := c) (env := env) (st := st) enc out p L
    cases hp : p a with
    | true => simp [lcL, e1, e2, hp, e3 hp, ih (acc ++ [out a]) fun y hy => q y (by simp [hy])]
    | false => simp [lcL, e1, e2, hp, ih acc fun y hy => q y (by simp [hy])]
end

section
variable [Wtp] [Tbl]

/-! ## new lists of the store that an operation makes -/
def mulN : PyData → PyData → Option (List PyData)
  | .list xs, .int k => if 0 ≤ k ∧ k ≤ 1000 ∧ xs.length ≤ 1000 then some (List.replicate k.toNat xs).flatten else none
  | _, _ => none
def addN : PyData → PyData → Option (List PyData)
  | .list xs, .list ys => if xs.length + ys.length ≤ 1000000 then some (xs ++ ys) else none
  | _, _ => none
def lstN : List PyData → Option (List PyData)
  | [d] => seqOf d
  | _ => none
def newO (r : Option (List PyData)) (st : Sto) : Rs Wv := match r with
  | some xs => .ok (.r st.length) (st ++ [.lst xs])
  | none => .no
@[simp] theorem newO_some (xs : List PyData) (st : Sto) : newO (some xs) st = .ok (.r st.length) (st ++ [.lst xs]) := rfl
def eOp2N (f : PyData → PyData → Option (List PyData)) (ca cb : En → Sto → Rs Wv) : En → Sto → Rs Wv := fun env st => (ca env st).bind fun a st1 => (cb env st1).bind fun b st2 => look1 a st2 fun d => look1 b st2 fun e => newO (f d e) st2
def eOpNN (f : List PyData → Option (List PyData)) (cs : En → Sto → Rs (List Wv)) : En → Sto → Rs Wv := fun env st => (cs env st).bind fun ws st1 => match looks ws st1 with
  | some ds => newO (f ds) st1
  | none => .no
@[simp] theorem x_op2n (f : PyData → PyData → Option (List PyData)) (a b : En → Sto → Rs Wv) (env : En) (st : Sto) : eOp2N f a b env st = (a env st).bind fun v st1 => (b env st1).bind fun w st2 => look1 v st2 fun d => look1 w st2 fun e => newO (f d e) st2 := rfl
@[simp] theorem x_opnn (f : List PyData → Option (List PyData)) (c : En → Sto → Rs (List Wv)) (env : En) (st : Sto) : eOpNN f c env st = (c env st).bind fun ws st1 => match looks ws st1 with
  | some ds => newO (f ds) st1
  | none => .no := rfl
@[simp] theorem o_mulN (xs : List PyData) (k : Int) : mulN (.list xs) (.int k) = if 0 ≤ k ∧ k ≤ 1000 ∧ xs.length ≤ 1000 then some (List.replicate k.toNat xs).flatten else none := rfl
@[simp] theorem o_addN (xs ys : List PyData) : addN (.list xs) (.list ys) = if xs.length + ys.length ≤ 1000000 then some (xs ++ ys) else none := rfl
@[simp] theorem o_lstN_l (xs : List PyData) : lstN [.list xs] = some xs := rfl
@[simp] theorem o_lstN_t (xs : List PyData) : lstN [.tuple xs] = some xs := rfl
def nOut (K : Frg) (H : Hp) (Z : Addr → Prop) (xs : List PyData) (Q : VK) : Prop := ∀ p vs, H p = none → RpA K H Z vs xs → Q (.ref p) (upd H p (.lst vs))
def rNw (K : Frg) (f : PyData → PyData → Option (List PyData)) : R2 := fun x y H Q => ∃ Z d e xs, RT K H Z x d ∧ RT K H Z y e ∧ f d e = some xs ∧ nOut K H Z xs Q
def rNwN (K : Frg) (f : List PyData → Option (List PyData)) : List V → Hp → VK → Prop := fun vs H Q => ∃ Z ds xs, RTs K H Z vs ds ∧ f ds = some xs ∧ nOut K H Z xs Q
section
variable {M : Md} {X : Cx} {B : Tb} {k : Nat} {σ : L2.St} {H : Hp} {m : Mp} {W : WX} {ca cb : En → Sto → Rs Wv} {cs : En → Sto → Rs (List Wv)} {pos p : Pos} {a b : Expr}
theorem nOut_of {st0 st1 : Sto} {H1 : Hp} {m1 : Mp} {r : Option (List PyData)} {Q : VK} {E : Xc → Sto → Prop} (f1 : Fol m st0.length H m1 st1.length H1) (S1 : Sim X.K H1 m1 st1) (q : (newO r st1).post (okE X m st0.length H Q) E) : ∃ xs, r = some xs ∧ nOut X.K H1 (Off m1 st1.length) xs Q := by
  cases r with
  | none => exact q.elim
  | some xs =>
    refine ⟨xs, rfl, fun p vs hn ra => ?_⟩
    have q : okE X m st0.length H Q (.r st1.length) (st1 ++ [.lst xs]) := q
    have f2 : Fol m1 st1.length H1 (mup m1 st1.length p) (st1.length + 1) (upd H1 p (.lst vs)) := fol_new hn
    have hl : (st1 ++ [Ob.lst xs]).length = st1.length + 1 := by simp
    refine q _ _ (mup m1 st1.length p) ?_ (S1.new hn ⟨vs, upd_same, ra.mv f2.kp⟩) ?_
    · rw [hl]; exact f1.trans f2
    · rw [hl]; exact ⟨Nat.lt_succ_self _, by rw [mup_new]⟩
theorem te_new (f : PyData → PyData → Option (List PyData)) {Q : VK} (h : tE X W (eOp2N f ca cb) σ H Q) : tOp (rNw X.K f) (tE X W ca) (tE X W cb) σ H Q := by
  obtain ⟨m, env, st, S, R, hp⟩ := h
  unfold eOp2N at hp
  rw [Rs.post_bind] at hp
  refine ⟨m, env, st, S, R, Rs.post_mono hp (fun w st1 q v H1 m1 f1 S1 r1 => ?_) fun _ _ q => q⟩
  rw [Rs.post_bind] at q
  refine ⟨m1, env, st1, S1, R.mv f1, Rs.post_mono q (fun w2 st2 q v2 H2 m2 f2 S2 r2 => ?_) fun _ _ q => okX.tr f1 q⟩
  obtain ⟨d, e1, q⟩ := look1_post q
  obtain ⟨e, e2, q⟩ := look1_post q
  obtain ⟨xs, e3, o⟩ := nOut_of (f1.trans f2) S2 q
  exact ⟨_, d, e, xs, look_rt S2 (r1.mv f2) e1, look_rt S2 r2 e2, e3, o⟩
theorem te_newN (f : List PyData → Option (List PyData)) {Q : VK} (h : tE X W (eOpNN f cs) σ H Q) : tCB (rNwN X.K f) (tA X W cs) σ H Q := by
  obtain ⟨m, env, st, S, R, hp⟩ := h
  unfold eOpNN at hp
  rw [Rs.post_bind] at hp
  refine ⟨m, env, st, S, R, Rs.post_mono hp (fun ws st1 q vs H1 m1 f1 S1 r1 => ?_) fun _ _ q => q⟩
  split at q
  · rename_i ds e1
    obtain ⟨xs, e3, o⟩ := nOut_of f1 S1 q
    exact ⟨_, ds, xs, looks_rt S1 r1 e1, e3, o⟩
  · exact q.elim
theorem de_binN {op : Operator} {f : PyData → PyData → Option (List PyData)} (ho : OpR X (binaryOp op) (rNw X.K f)) (ha : DE X a ca) (hb : DE X b cb) : DE X (.BinOp a op b pos) (eOp2N f ca cb) :=
  ⟨fun W tk => PE.imp (pe_op ho (ha.pe W tk) (hb.pe W tk)) fun σ H Q => te_new f⟩
theorem n_mul : OpR X (binaryOp .Mult) (rNw X.K mulN) := by
  intro pins s σ H x y v u Q I rx ry ⟨Z, d, e, xs, hd, he, hf, ho⟩
  unfold mulN at hf
  split at hf
  · split at hf
    · rename_i xs k hk
      cases hf
      obtain ⟨a, vs, rfl, h1, h2⟩ := hd.lst
      cases he.int
      exact op_repP pins s σ H _ _ v u Q I rx ry ⟨a, k, vs, rfl, rfl, h1, hk.1, hk.2.1, by rw [h2.len]; exact hk.2.2, fun p hn => ho p _ hn (h2.rep _)⟩
    · cases hf
  · cases hf
theorem n_add : OpR X (binaryOp .Add) (rNw X.K addN) := by
  intro pins s σ H x y v u Q I rx ry ⟨Z, d, e, xs, hd, he, hf, ho⟩
  unfold addN at hf
  split at hf
  · split at hf
    · rename_i hk
      cases hf
      obtain ⟨a, vs, rfl, h1, h2⟩ := hd.lst
      obtain ⟨b, us, rfl, k1, k2⟩ := he.lst
      have l1 := h2.len
      have l2 := k2.len
      exact op_catP pins s σ H _ _ v u Q I rx ry ⟨a, b, vs, us, rfl, rfl, h1, k1, Nat.le_trans (by omega) line_lim, fun p hn => ho p _ hn (h2.app k2)⟩
    · cases hf
  · cases hf
theorem n_lst : CallR X (.type "list") (rNwN X.K lstN) := by
  intro pins s σ H xs us Q I r ⟨Z, ds, ys, hd, hf, ho⟩
  unfold lstN at hf
  split at hf
  · obtain ⟨v, rfl, h⟩ := rts1 hd
    unfold seqOf at hf
    split at hf
    · cases hf
      obtain ⟨a, vs, rfl, h1, h2⟩ := h.lst
      exact call_list_of pins s σ H _ us Q I r ⟨a, vs, rfl, .inl h1.sq, fun p hn => ho p _ hn h2⟩
    · cases hf
      obtain ⟨a, vs, rfl, h1, h2⟩ := h.tup
      exact call_list_of pins s σ H _ us Q I r ⟨a, vs, rfl, .inr h1, fun p hn => ho p _ hn h2⟩
    · cases hf
  · cases hf
theorem de_lstN {e : Expr} (c : Cxt M X B k) (j : Nat) (hg : B.gs[j]? = some ("list" : Str)) (hm : M.mg "list" = none) (ha : DA X [e] cs) (he : starEach [e] X.env = (false, eval e X.env) :: starEach [] X.env := by rfl) (hpl : (backTo pos (starEach [] X.env)).any (·.1) = false := by rfl) :
    DE X (.Call (.Name "list" p) [e] [] pos) (eOpNN lstN cs) :=
  ⟨fun W tk => PE.imp (pe_callTy n_lst (c.gl j _ hg) (by rw [c.mg]; exact hm) (by decide +kernel) (ha.pa W tk) (by decide) (by decide) he hpl) fun σ H Q => te_newN lstN⟩
def slDN (lo hi : Option Int) : PyData → Option (List PyData)
  | .list xs => some (cutD xs lo hi)
  | _ => none
def rSliceN (K : Frg) : V → Option Int → Option Int → Hp → VK → Prop := fun x lo hi H Q => ∃ Z d xs, RT K H Z x d ∧ slDN lo hi d = some xs ∧ nOut K H Z xs Q
theorem o_sliceN : SlR X (rSliceN X.K) := by
  intro pins s σ H x v vl vu lo hi sl Q I rx hs pl pu ⟨Z, d, r, hd, hf, ho⟩
  unfold slDN at hf
  split at hf
  · cases hf
    obtain ⟨a, vs, rfl, h1, h2⟩ := hd.lst
    exact sl_list pins s σ H _ v vl vu lo hi sl Q I rx hs pl pu ⟨a, vs, rfl, h1.sq, fun p hn => ho p _ hn (h2.cut lo hi)⟩
  · cases hf
def eSliceN (c : En → Sto → Rs Wv) (l h : En → Sto → Rs (Option Int)) : En → Sto → Rs Wv := fun env st => (c env st).bind fun w st1 => (l env st1).bind fun lo st2 => (h env st2).bind fun hi st3 => look1 w st3 fun d => newO (slDN lo hi d) st3
theorem de_sliceN {a : Expr} {lo hi : Option Expr} {c : En → Sto → Rs Wv} {l h : En → Sto → Rs (Option Int)} {p2 pos : Pos} (ha : DE X a c) (hl : DO X lo l) (hh : DO X hi h) : DE X (.Subscript a (.Slice lo hi none p2) pos) (eSliceN c l h) := by
  refine ⟨fun W tk => PE.imp (pe_slice o_sliceN (ha.pe W tk) (hl.po W tk) (hh.po W tk)) fun σ H Q ⟨m, env, st, S, R, hp⟩ => ?_⟩
  unfold eSliceN at hp
  rw [Rs.post_bind] at hp
  refine ⟨m, env, st, S, R, Rs.post_mono hp (fun w st1 q v H1 m1 f1 S1 r1 => ?_) fun _ _ q => q⟩
  rw [Rs.post_bind] at q
  refine ⟨m1, env, st1, S1, R.mv f1, Rs.post_mono q (fun i st2 q H2 m2 f2 S2 => ?_) fun _ _ q => okX.tr f1 q⟩
  rw [Rs.post_bind] at q
  refine ⟨m2, env, st2, S2, (R.mv f1).mv f2, Rs.post_mono q (fun j st3 q H3 m3 f3 S3 => ?_) fun _ _ q => okX.tr (f1.trans f2) q⟩
  obtain ⟨d, e1, q⟩ := look1_post q
  obtain ⟨xs, e2, q⟩ := nOut_of ((f1.trans f2).trans f3) S3 q
  exact ⟨_, d, xs, look_rt S3 ((r1.mv f2).mv f3) e1, e2, q⟩
@[simp] theorem o_slDN (lo hi : Option Int) (xs : List PyData) : slDN lo hi (.list xs) = some (cutD xs lo hi) := rfl
@[simp] theorem x_sliceN (env : En) (st : Sto) (c : En → Sto → Rs Wv) (l h : En → Sto → Rs (Option Int)) : eSliceN c l h env st = ((c env st).bind fun w st1 => (l env st1).bind fun i st2 => (h env st2).bind fun j st3 => look1 w st3 fun d => newO (slDN i j d) st3) := rfl
/-! a, b = x, y where a name lies in a cell: stores' lists too -/
def gWNl : List Wv → En → Option En := fun ws env => match ws with
  | [] => some env
  | _ => none
def gWCn (g : Wv → En → Option En) (h : List Wv → En → Option En) : List Wv → En → Option En := fun ws env => match ws with
  | w :: r => (g w env).bind (h r)
  | [] => none
structure DGw (X : Cx) (tg : List Expr) (g : List Wv → En → Option En) (n : Nat) : Prop where
  pgs : PGs X tg fun vs σ H Q => ∃ m n env ws env', RWs X.K H m n vs ws ∧ EnvR X.K H m n env σ ∧ g ws env = some env' ∧ ∀ σ', EnvR X.K H m n env' σ' → Q σ' H
  ask : ∀ ws env env', g ws env = some env' → ws.length = n
theorem dgw_nil : DGw X [] gWNl 0 := by
  refine ⟨PGs.imp pgs_nil fun v σ H Q ⟨m, n, env, ds, env', r, R, e, q⟩ => ?_, fun ws env env' e => ?_⟩
  · unfold gWNl at e
    split at e
    · cases e
      cases r
      exact ⟨rfl, q σ R⟩
    · cases e
  · unfold gWNl at e
    split at e
    · rfl
    · cases e
theorem dgw_cons {S : List Nat} {e : Expr} {es : List Expr} {g : Wv → En → Option En} {h : List Wv → En → Option En} {n : Nat} (h1 : DG X S e g) (h2 : DGw X es h n) (hs : (assignEach (e :: es) X.env).map (·.2) = assign e X.env :: (assignEach es X.env).map (·.2) := by rfl) : DGw X (e :: es) (gWCn g h) (n + 1) := by
  refine ⟨PGs.imp (pgs_cons h1.pg h2.pgs hs) fun v σ H Q ⟨m, n, env, ds, env', r, R, e, q⟩ => ?_, fun ws env env' e => ?_⟩
  · unfold gWCn at e
    split at e
    · rename_i x r'
      cases r with
      | @cons v0 vr _ _ r1 r2 =>
        cases e1 : g x env with
        | none => rw [e1] at e; cases e
        | some env1 =>
          rw [e1] at e
          exact ⟨v0, vr, rfl, m, n, env, x, env1, r1, R, e1, fun σ1 R1 b1 => ⟨m, n, env1, r', env', r2, R1, e, fun σ2 R2 => q σ2 R2⟩⟩
    · cases e
  · unfold gWCn at e
    split at e
    · rename_i x r
      cases e1 : g x env with
      | none => rw [e1] at e; cases e
      | some env1 => rw [e1] at e; simp [h2.ask r env1 env' e]
    · cases e
def sAsgW (g : List Wv → En → Option En) (cs : En → Sto → Rs (List Wv)) : En → Sto → SR := fun env st => (cs env st).sb fun ws st1 => match g ws env with
  | some env' => .nx env' st1
  | none => .no
@[simp] theorem x_asgW (g : List Wv → En → Option En) (cs : En → Sto → Rs (List Wv)) (env : En) (st : Sto) : sAsgW g cs env st = (cs env st).sb fun ws st1 => match g ws env with | some env' => .nx env' st1 | none => .no := rfl
@[simp] theorem x_gWNl (env : En) : gWNl [] env = some env := rfl
@[simp] theorem x_gWCn (g : Wv → En → Option En) (h : List Wv → En → Option En) (w : Wv) (r : List Wv) (env : En) : gWCn g h (w :: r) env = (g w env).bind (h r) := rfl
theorem ds_asgW {ts es : List Expr} {g : List Wv → En → Option En} {n j k2 : Nat} {pt p2 : Pos} (c : Cxt M X B k) (ha : DA X es cs) (h : DGw X ts g n) (hn1 : n ≤ 1000000) (hs : swapsWithSole [.Tuple ts j pt] (.Tuple es k2 p2) pos.line X.env = pure false := by rfl) (hw : swappedStores [.Tuple ts j pt] (.Tuple es k2 p2) X.env = pure none := by rfl)
    (h1 : (assignEach [.Tuple ts j pt] X.env).map (·.2) = [assign (.Tuple ts j pt) X.env] := by rfl) (hn : (assignEach ts X.env).length = n := by rfl) (hst : (assignEach ts X.env).findIdx? (·.1) = none := by rfl) : DS X (.Assign [.Tuple ts j pt] (.Tuple es k2 p2) pos) (sAsgW g cs) := by
  refine ⟨fun W tk => PS.imp (ps_asg (pe_tup (ha.pa W tk)) (pg_tup c.calm h.pgs hn hst) hs hw h1) fun D σ H ⟨m, env, st, S, R, hp⟩ => ?_⟩
  unfold sAsgW at hp
  rw [Rs.post_sb] at hp
  refine ⟨m, env, st, S, R, Rs.post_mono hp (fun ws st1 q vs H1 m1 f1 S1 r1 => ?_) fun _ _ h => h.x⟩
  split at q
  · rename_i env' e
    have hl := h.ask _ _ _ e
    refine ⟨by rw [r1.len, hl]; exact Nat.le_trans hn1 line_lim, fun p hn => ?_⟩
    have g := grow_upd (o := .tup vs) hn
    refine ⟨p, vs, rfl, SqT.of upd_same, by rw [r1.len, hl], m1, st1.length, env, ws, _, r1.mv (.same g), (R.mv f1).mv (.same g), e, fun σ' R' => q σ' _ m1 (f1.trans (.same g)) (S1.grow g) R'⟩
  · exact q.elim
end

/-! ## a, b = x, y where one of the names is captured -/
section
variable {M : Md} {X : Cx} {B : Tb} {k : Nat} {x y z : Str} {px py pz pt pt2 : Pos} {kt k2 : Nat} {vs : List Expr}
theorem notLoc (c : Cxt M X B k) (h : x ∈ B.cs) : ¬ X.env.kindOf x = some NameKind.local := by
  rcases c.cs x h with e | e
  · rw [show X.env.kindOf x = some .cell from e]; decide
  · rw [show X.env.kindOf x = some .free from e]; decide
theorem sw2n (c : Cxt M X B k) (h : x ∈ B.cs ∨ y ∈ B.cs) : swappedStores [.Tuple [.Name x px, .Name y py] kt pt] (.Tuple vs k2 pt2) X.env = pure none := by
  unfold swappedStores
  rcases h with h | h
  · have e := notLoc c h
    by_cases q : X.env.kindOf y = some NameKind.local ∧ py.line = px.line <;> simp [e, q, Expr.pos, List.filterMap_cons]
  · have e := notLoc c h
    by_cases q : X.env.kindOf x = some NameKind.local <;> simp [e, q, Expr.pos, List.filterMap_cons]
theorem sw3n (c : Cxt M X B k) (h : x ∈ B.cs ∨ y ∈ B.cs ∨ z ∈ B.cs) : swappedStores [.Tuple [.Name x px, .Name y py, .Name z pz] kt pt] (.Tuple vs k2 pt2) X.env = pure none := by
  unfold swappedStores
  rcases h with h | h | h
  · have e := notLoc c h
    by_cases q : X.env.kindOf y = some NameKind.local ∧ py.line = px.line <;> by_cases q2 : X.env.kindOf z = some NameKind.local ∧ pz.line = px.line <;> simp [e, q, q2, Expr.pos, List.filterMap_cons]
  · have e := notLoc c h
    by_cases q : X.env.kindOf x = some NameKind.local <;> by_cases q2 : X.env.kindOf z = some NameKind.local ∧ pz.line = px.line <;> simp [e, q, q2, Expr.pos, List.filterMap_cons]
  · have e := notLoc c h
    by_cases q : X.env.kindOf x = some NameKind.local <;> by_cases q2 : X.env.kindOf y = some NameKind.local ∧ py.line = px.line <;> simp [e, q, q2, Expr.pos, List.filterMap_cons]
end

/-! ## a comprehension that draws -/
theorem lcL_pen {g : Wv → En → Option En} {c : En → Sto → Rs Wv} {env : En} {p : Nat} (Q : PyData → Prop) : ∀ (xs acc : List PyData) (st : Sto), Pen p st → (∀ x ∈ xs, ∀ st, Pen p st → ∃ env1 y st', g (.d x) env = some env1 ∧ c env1 st = .ok (.d y) st' ∧ Q y ∧ Pn p st st') →
    ∃ ys st', lcL g tYs c [] env xs acc st = .ok (acc ++ ys) st' ∧ ys.length = xs.length ∧ (∀ y ∈ ys, Q y) ∧ Pn p st st'
  | [], acc, st, h, _ => ⟨[], st, by simp [lcL], rfl, fun y hy => absurd hy List.not_mem_nil, .refl h⟩
  | x :: xs, acc, st, h, q => by
    obtain ⟨env1, y, st1, e1, e2, hy, pn⟩ := q x (by simp) st h
    obtain ⟨ys, st2, e3, hl, hys, pn2⟩ := lcL_pen Q xs (acc ++ [y]) st1 pn.pen fun z hz => q z (by simp [hz])
    refine ⟨y :: ys, st2, by simp [lcL, e1, e2, e3], by simp [hl], fun z hz => ?_, pn.trans pn2⟩
    rcases List.mem_cons.mp hz with rfl | hz
    · exact hy
    · exact hys z hz
/-- data that are ints -/
theorem ints_of {P : Int → Prop} : ∀ {ys : List PyData}, (∀ y ∈ ys, ∃ i, y = .int i ∧ P i) → ∃ ns : List Int, ys = ns.map .int ∧ ns.length = ys.length ∧ ∀ n ∈ ns, P n
  | [], _ => ⟨[], rfl, rfl, fun n hn => absurd hn List.not_mem_nil⟩
  | y :: ys, h => by
    obtain ⟨i, rfl, hi⟩ := h y (by simp)
    obtain ⟨ns, rfl, hl, hn⟩ := ints_of (P := P) (ys := ys) fun z hz => h z (List.mem_cons_of_mem _ hz)
    refine ⟨i :: ns, rfl, by simp, fun n hn' => ?_⟩
    rcases List.mem_cons.mp hn' with rfl | q
    · exact hi
    · exact hn n q

/-! ## loops over lists of the store -/
theorem forL_nil' (g : Wv → En → Option En) (b : En → Sto → SR) (lv : List (Nat × List PyData)) (env : En) (st : Sto) (h : lvOk lv st) : forL g b lv [] env st = .nx env st := by simp [forL, h]
theorem forL_cons' (g : Wv → En → Option En) (b : En → Sto → SR) (lv : List (Nat × List PyData)) (x : PyData) (r : List PyData) (env : En) (st : Sto) (h : lvOk lv st) : forL g b lv (x :: r) env st = match g (.d x) env with
    | some env1 => (b env1 st).seq (forL g b lv r)
    | none => .no := by cases q : g (.d x) env <;> simp [forL, h, q]
theorem forL_goL {g : Wv → En → Option En} {b : En → Sto → SR} {lv : List (Nat × List PyData)} (I : Nat → En → Sto → Prop) (hlv : ∀ k env st, I k env st → lvOk lv st) : ∀ (xs : List PyData) (k : Nat), (∀ i x, xs[i]? = some x → ∀ env st, I (k + i) env st → ∃ env1 env2 st2, g (.d x) env = some env1 ∧ b env1 st = .nx env2 st2 ∧ I (k + i + 1) env2 st2) →
    ∀ env st, I k env st → ∃ env2 st2, forL g b lv xs env st = .nx env2 st2 ∧ I (k + xs.length) env2 st2
  | [], k, _, env, st, h => ⟨env, st, forL_nil' _ _ _ _ _ (hlv k env st h), h⟩
  | x :: xs, k, q, env, st, h => by
    obtain ⟨env1, env2, st2, e1, e2, h2⟩ := q 0 x rfl env st h
    obtain ⟨env3, st3, e3, h3⟩ := forL_goL I hlv xs (k + 1) (fun i y hy env st hI => by
      have := q (i + 1) y (by simpa using hy) env st (by rw [show k + (i + 1) = k + 1 + i by omega]; exact hI)
      rw [show k + (i + 1) + 1 = k + 1 + i + 1 by omega] at this
      exact this) env2 st2 h2
    exact ⟨env3, st3, by rw [forL_cons' _ _ _ _ _ _ _ (hlv k env st h), e1]; simp [e2, e3], by rw [List.length_cons, show k + (xs.length + 1) = k + 1 + xs.length by omega]; exact h3⟩
/-- n turns of a while, then its end -/
theorem whL_go {t : En → Sto → Rs Bool} {b : En → Sto → SR} (I : Nat → En → Sto → Prop) (n : Nat) (hgo : ∀ i env st, i < n → I i env st → ∃ st1 env2 st2, t env st = .ok true st1 ∧ b env st1 = .nx env2 st2 ∧ I (i + 1) env2 st2) (hend : ∀ env st, I n env st → ∃ st1, t env st = .ok false st1 ∧ I n env st1) :
    ∀ (f k : Nat) (env : En) (st : Sto), k ≤ n → n < k + f → I k env st → ∃ env2 st2, whL t b f env st = .nx env2 st2 ∧ I n env2 st2
  | 0, k, _, _, h1, h2, _ => absurd h2 (by omega)
  | f + 1, k, env, st, h1, h2, h => by
    by_cases q : k < n
    · obtain ⟨st1, env2, st2, e1, e2, h3⟩ := hgo k env st q h
      obtain ⟨env3, st3, e3, h4⟩ := whL_go I n hgo hend f (k + 1) env2 st2 q (by omega) h3
      exact ⟨env3, st3, by simp [whL, e1, e2, e3], h4⟩
    · have e : k = n := by omega
      subst e
      obtain ⟨st1, e1, h3⟩ := hend env st h
      exact ⟨env, st1, by simp [whL, e1], h3⟩
theorem atD_last {α : Type} (xs : List α) (z : α) : atD (xs ++ [z]) (-1) = some z := by
  unfold atD ixN
  have hl : (xs ++ [z]).length = xs.length + 1 := by simp
  rw [if_neg (by decide), if_pos (by rw [hl]; omega)]
  have e : (-1 + (((xs ++ [z]).length : Nat) : Int)).toNat = xs.length := by rw [hl]; omega
  show (xs ++ [z])[(-1 + (((xs ++ [z]).length : Nat) : Int)).toNat]? = some z
  rw [e]
  simp
theorem sum_le {a b : Int} : ∀ {ls : List Int}, (∀ l ∈ ls, a ≤ l ∧ l ≤ b) → a * ls.length ≤ ls.sum ∧ ls.sum ≤ b * ls.length
  | [], _ => by simp
  | l :: ls, h => by
    have ih := sum_le (ls := ls) fun x hx => h x (by simp [hx])
    have hl := h l (by simp)
    rw [List.sum_cons, List.length_cons]
    have e1 : a * ((ls.length + 1 : Nat) : Int) = a * ls.length + a := by rw [Int.natCast_add, Int.mul_add]; simp
    have e2 : b * ((ls.length + 1 : Nat) : Int) = b * ls.length + b := by rw [Int.natCast_add, Int.mul_add]; simp
    omega
end

section
variable [Wtp] [Tbl]
/-! ### {k: v, ..} that nobody writes -/
def pairsW : List Wv → Option (List (PyData × PyData))
  | [] => some []
  | .d c :: .d y :: ws => match keyD c, pairsW ws with
    | some _, some es => some ((c, y) :: es)
    | _, _ => none
  | _ => none
def mergeD (es more : List (PyData × PyData)) : List (PyData × PyData) := more.foldl (fun acc e => match keyD e.1 with
  | some k => dPut acc k e.1 e.2
  | none => acc) es
def dicW (ws : List Wv) (st : Sto) : Rs Wv := match pairsW ws with
  | some es => if es.length ≤ 15 then .ok (.d (.dict (mergeD [] es))) st else .no
  | none => .no
def eDic (cs : En → Sto → Rs (List Wv)) : En → Sto → Rs Wv := fun env st => (cs env st).bind dicW
@[simp] theorem x_dic (env : En) (st : Sto) (cs : En → Sto → Rs (List Wv)) : eDic cs env st = (cs env st).bind dicW := rfl
def pairUp : List V → List (V × V)
  | x :: y :: r => (x, y) :: pairUp r
  | _ => []
structure DP (X : Cx) (keys : List (Option Expr)) (vals : List Expr) (cs : En → Sto → Rs (List Wv)) : Prop where
  all : keys.all (·.isSome) = true
  len : keys.length = vals.length
  pp : ∀ W, Takes X W → ∃ trs : List (TE × TE), (∀ pos, PPs X pos keys vals trs) ∧ ∀ σ H Q, tA X W cs σ H (fun vs H' => Q (pairUp vs) H') → tPairs trs σ H Q
section
variable {X : Cx} {pos : Pos}
theorem dp_nil : DP X [] [] aNil := ⟨rfl, rfl, fun W tk => ⟨[], fun _ => pps_nil, fun σ H Q ⟨m, env, st, S, R, hp⟩ => hp [] H m .refl S .nil⟩⟩
theorem dp_cons {k v : Expr} {ks : List (Option Expr)} {vs : List Expr} {ck cv : En → Sto → Rs Wv} {cs : En → Sto → Rs (List Wv)} (hk : DE X k ck) (hv : DE X v cv) (hr : DP X ks vs cs) : DP X (some k :: ks) (v :: vs) (aCons ck (aCons cv cs)) := by
  refine ⟨by rw [List.all_cons, hr.all]; rfl, by rw [List.length_cons, List.length_cons, hr.len], fun W tk => ?_⟩
  obtain ⟨trs, h1, h2⟩ := hr.pp W tk
  refine ⟨(tE X W ck, tE X W cv) :: trs, fun pos => pps_cons (hk.pe W tk) (hv.pe W tk) (h1 pos), fun σ H Q ⟨m, env, st, S, R, hp⟩ => ?_⟩
  unfold aCons at hp
  rw [Rs.post_bind] at hp
  refine ⟨m, env, st, S, R, Rs.post_mono hp (fun w st1 q v H1 m1 f1 S1 r1 => ?_) fun _ _ q => q⟩
  rw [Rs.post_bind, Rs.post_bind] at q
  refine ⟨m1, env, st1, S1, R.mv f1, Rs.post_mono q (fun w2 st2 q v2 H2 m2 f2 S2 r2 => ?_) fun _ _ q => okX.tr f1 q⟩
  rw [Rs.post_bind] at q
  refine h2 _ _ _ ⟨m2, env, st2, S2, (R.mv f1).mv f2, Rs.post_mono q (fun ws st3 q vs H3 m3 f3 S3 r3 => ?_) fun _ _ q => okX.tr (f1.trans f2) q⟩
  exact q (v :: v2 :: vs) H3 m3 ((f1.trans f2).trans f3) S3 (.cons ((r1.mv f2).mv f3) (.cons (r2.mv f3) r3))
theorem Kp.pushK {K : Frg} {m : Mp} {H : Hp} {n : Nat} {D : Addr} {xs ys : List (Key × V)} (hF : m.F D) (hD : H D = some (.dK ys)) : Kp K H (Off m n) (upd H D (.dK xs)) (Off m n) := by
  refine ⟨fun a us h => ?_, fun a o u h => ?_, fun a o _ h z => ⟨?_, z⟩⟩
  · rw [upd_ne]; exact h
    intro e; rw [e, hD] at h; cases h
  · rw [upd_ne]; exact h
    intro e; rw [e, hD] at h; cases h
  · rw [upd_ne]; exact h
    exact fun e => z.2 (e ▸ hF)
theorem Sim.pushK {K : Frg} {m : Mp} {H : Hp} {st : Sto} {D : Addr} {xs ys : List (Key × V)} (S : Sim K H m st) (hF : m.F D) (hD : H D = some (.dK ys)) : Sim K (upd H D (.dK xs)) m st := by
  have kp := Kp.pushK (K := K) (n := st.length) (xs := xs) hF hD
  refine ⟨fun i u e => ?_, S.inj, fun a z => ?_, S.fi, S.tb.wr hD (.inr (.inl ⟨_, rfl⟩))⟩
  · have h := S.ob i u e
    have hi : i < st.length := (List.getElem?_eq_some_iff.mp e).1
    have hx : m.ix i ≠ D := fun e => S.fi i hi (e ▸ hF)
    cases u with
    | lst xs => obtain ⟨vs, h1, h2⟩ := h; exact ⟨vs, by rw [upd_ne hx]; exact h1, h2.mv kp⟩
    | dct kvs => obtain ⟨vs, h1, h2⟩ := h; exact ⟨vs, by rw [upd_ne hx]; exact h1, RpK.kp kp _ _ h2⟩
    | dtt kvs => obtain ⟨vs, h1, h2⟩ := h; exact ⟨vs, by rw [upd_ne hx]; exact h1, RpT.kp kp _ _ h2⟩
    | lkd es => exact Rp.mv h kp
    | lkl xs => exact FzL.mv h kp
  · by_cases e : a = D
    · rw [e]; exact ⟨_, upd_same, nt_dK⟩
    · obtain ⟨o, h, nt⟩ := S.ff a z
      exact ⟨o, by rw [upd_ne e]; exact h, nt⟩
theorem pairs_rp {Z : Addr → Prop} {H H' : Hp} {m : Mp} {n : Nat} (kp : Kp X.K H (Off m n) H' Z) : ∀ {ws : List Wv} {vs : List V} {es : List (PyData × PyData)}, RWs X.K H m n vs ws → pairsW ws = some es →
    ∃ kvs : List (Key × V), pairUp vs = kvs.map (fun kv => (kV kv.1, kv.2)) ∧ kvs.length = es.length ∧ ∀ kvs0 es0, RpK X.K H' Z kvs0 es0 → RpK X.K H' Z (mergeK kvs0 kvs) (mergeD es0 es)
  | [], _, _, .nil, e => by cases e; exact ⟨[], rfl, rfl, fun _ _ h => h⟩
  | [.d c], _, _, .cons _ .nil, e => by cases e
  | .d c :: .d y :: ws, _, es, .cons (v := v1) r1 (.cons (v := v2) (vs := vs) r2 r3), e => by
    unfold pairsW at e
    split at e
    · rename_i k es1 hk h1
      cases e
      obtain ⟨kvs, e1, e2, q⟩ := pairs_rp kp r3 h1
      have e3 : v1 = kV k := keyD_v (.inl r1) hk
      refine ⟨(k, v2) :: kvs, ?_, by rw [List.length_cons, List.length_cons, e2], fun kvs0 es0 h0 => ?_⟩
      · rw [pairUp, e1, List.map_cons, e3]
      · have h3 := q _ _ (rpk_put hk (Rp.kp kp _ _ r2) h0)
        unfold mergeD mergeK at h3 ⊢
        rw [List.foldl_cons, List.foldl_cons]
        simp only [hk]
        exact h3
    · cases e
  | .d c :: .r i :: ws, _, _, .cons _ (.cons _ _), e => by cases e
  | .r i :: ws, _, _, .cons _ _, e => by cases e
theorem de_dic {keys : List (Option Expr)} {vals : List Expr} {cs : En → Sto → Rs (List Wv)} (h : DP X keys vals cs) (h0 : keys ≠ [] := by exact fun z => nomatch z) (h15 : keys.length ≤ 15 := by decide) : DE X (.Dict keys vals pos) (eDic cs) := by
  refine ⟨fun W tk => ?_⟩
  obtain ⟨trs, h1, h2⟩ := h.pp W tk
  refine PE.imp (pe_freeze (pe_disp (h1 pos) h.all h.len h0 h15)) fun σ H Q ⟨m, env, st, S, R, hp⟩ => ?_
  unfold eDic at hp
  rw [Rs.post_bind] at hp
  intro p hn
  obtain ⟨S0, f0⟩ := S.start (o := .dK []) hn
  refine h2 _ _ _ ⟨m.with p, env, st, S0, R.mv f0, Rs.post_mono hp (fun ws st1 q vs H1 m1 f1 S1 r1 => ?_) fun _ _ q => okX.tr f0 q⟩
  unfold dicW at q
  split at q
  · rename_i es he
    split at q
    · rename_i hl
      have hp0 : Nn (upd H p (.dK [])) p := ⟨_, upd_same, nt_dK⟩
      have F1 : m1.F p := (f1.eF p hp0).mpr (.inr rfl)
      have hx : ∀ i, i < st1.length → m1.ix i ≠ p := fun i hi e => S1.fi i hi (e ▸ F1)
      have hD : H1 p = some (.dK []) := f1.rest p _ nt_dK upd_same (fun i hi e => nn_no hn (by have := S.there hi; rwa [show m.ix i = p from e] at this))
      have kp0 : ∀ xs, Kp X.K H1 (Off m1 st1.length) (upd H1 p (.dK xs)) (Off (m1.done p) st1.length) := fun xs => by
        have k := Kp.pushK (K := X.K) (n := st1.length) (xs := xs) F1 hD
        exact ⟨k.1, k.2, fun a o nt h z => ⟨(k.3 a o nt h z).1, off_done a (k.3 a o nt h z).2⟩⟩
      obtain ⟨kvs, e1, e2, -⟩ := pairs_rp (kp0 []) r1 he
      refine ⟨hD, kvs, e1, by omega, p, .dK (mergeK [] kvs), rfl, upd_same, .inl ⟨_, rfl⟩, fun o => ?_⟩
      have eU : upd (upd H1 p (.dK (mergeK [] kvs))) p (.frz o (.dK (mergeK [] kvs))) = upd H1 p (.frz o (.dK (mergeK [] kvs))) := by funext b; by_cases z : b = p <;> simp [upd, z]
      rw [eU]
      have kF : Kp X.K H1 (Off m1 st1.length) (upd H1 p (.frz o (.dK (mergeK [] kvs)))) (Off (m1.done p) st1.length) := by
        rw [← fz_one]
        exact (kp0 _).trans (fz_kp fun _ z => z)
      obtain ⟨kvs', e1', e2', qq⟩ := pairs_rp kF r1 he
      have ek : kvs' = kvs := by
        have h := e1'.symm.trans e1
        exact (List.map_inj_right (fun a b z => by
          obtain ⟨a1, a2⟩ := a
          obtain ⟨b1, b2⟩ := b
          simp only [Prod.mk.injEq] at z ⊢
          exact ⟨kV_inj z.1, z.2⟩)).mp h
      subst ek
      have S2 : Sim X.K (upd H1 p (.dK (mergeK [] kvs'))) (m1.done p) st1 := (S1.pushK F1 hD).sub rfl fun a z => z.1
      have S3 := S2.fz' (n := st1.length) (os := fun _ => o) (as := [p]) (Nat.le_refl _) (fun i hi z => hx i hi (List.mem_singleton.mp z))
      rw [fz_one, List.take_length] at S3
      exact q _ _ (m1.done p) (((f0.trans f1).done (nn_no hn)).updD (nn_no hn)) S3 (.dic upd_same (qq _ _ .nil))
    · exact q.elim
  · exact q.elim
end
/-! ### least and greatest of a list -/
open PySem.W in
def alikeB (xs : List PyData) : Bool := xs.all (fun x => xs.all (alike x)) && xs.all (fun x => match x with | .none => false | _ => true)
open PySem.W in
theorem alikeB_all {xs : List PyData} (h : alikeB xs = true) : AlikeAll xs := by
  unfold alikeB at h
  rw [Bool.and_eq_true, List.all_eq_true, List.all_eq_true] at h
  exact ⟨fun x hx y hy => List.all_eq_true.mp (h.1 x hx) y hy, fun x hx e => by have := h.2 x hx; subst e; cases this⟩
open PySem.W in
theorem minD_mem : ∀ (x : PyData) (xs : List PyData), minD x xs ∈ x :: xs
  | x, [] => by simp [minD]
  | x, y :: ys => by
    have h := minD_mem (if dataLt y x then y else x) ys
    have e : minD x (y :: ys) = minD (if dataLt y x then y else x) ys := rfl
    rw [e]
    rcases List.mem_cons.mp h with h | h
    · rw [h]; split
      · simp
      · simp
    · exact List.mem_cons_of_mem _ (List.mem_cons_of_mem _ h)
open PySem.W in
theorem maxD_mem : ∀ (x : PyData) (xs : List PyData), maxD x xs ∈ x :: xs
  | x, [] => by simp [maxD]
  | x, y :: ys => by
    have h := maxD_mem (if dataLt x y then y else x) ys
    have e : maxD x (y :: ys) = maxD (if dataLt x y then y else x) ys := rfl
    rw [e]
    rcases List.mem_cons.mp h with h | h
    · rw [h]; split
      · simp
      · simp
    · exact List.mem_cons_of_mem _ (List.mem_cons_of_mem _ h)
open PySem.W in
def bestF (f : PyData → List PyData → PyData) : List PyData → Option PyData
  | [d] => match seqOf d with
    | some (x :: xs) => if alikeB (x :: xs) = true ∧ PyData.depthAll (x :: xs) ≤ 40 then some (f x xs) else none
    | _ => none
  | _ => none
section
variable {X : Cx} {pins : List (Addr × Obj)} {s : Shared} {σ : L2.St} {H : Hp} {Z : Addr → Prop}
theorem vals_back : ∀ {xs : List V} {us : List Value} {i : Nat} {u : Value}, Vals xs us → us[i]? = some u → ∃ x, xs[i]? = some x ∧ RelV x u
  | _, _, _, _, .nil, e => by simp at e
  | _, _, 0, _, .cons r _, e => by simp at e; subst e; exact ⟨_, rfl, r⟩
  | _, _, i + 1, _, .cons _ r, e => by simp at e; simpa using vals_back r e
open PySem.W in
theorem pick_out (I : Inv X pins σ H s) {vs : List V} {xs : List PyData} {its : List Value} (r : RpA X.K H Z vs xs) (rv : Vals vs its) (hal : AlikeAll xs) {d : PyData} (hd : d ∈ xs) {i : Nat} {u : Value} (hu : its[i]? = some u) {h' : Heap} {bs : List Addr} (q : Reads h' u d bs)
    (hk : ∀ b o, s.heap.get? b = some o → h'.get? b = some o) : ∃ v, RelV v u ∧ Rp X.K H Z v d := by
  obtain ⟨v, hv, rel⟩ := vals_back rv hu
  have hi : i < xs.length := by rw [← r.len]; exact (List.getElem?_eq_some_iff.mp hv).1
  obtain ⟨v', hv', rp⟩ := r.get (List.getElem?_eq_getElem hi)
  rw [hv] at hv'
  cases hv'
  obtain ⟨as, q2⟩ := Rp.reads I _ v u rp rel
  have e := alike_unique xs[i] d u as bs (hal.1 _ (List.getElem_mem hi) _ hd) (reads_keeps hk q2) q
  exact ⟨v, rel, e ▸ rp⟩
open PySem.W in
theorem c_min1 {k : Nat} (hc : X.calm = true) (hr : L2H.RoomH k X.A) : CallR X (.builtin "min") (rN X.K (bestF minD)) := by
  intro pins s σ H xs us Q I r ⟨Z, ds, e, hz, hd, hf, ho⟩
  have hu := room_eq hr (show 60 ≤ 60 by decide)
  unfold bestF at hf
  split at hf
  · obtain ⟨v, rfl, h⟩ := rts1 hd
    split at hf
    · rename_i x xs q
      split at hf
      · rename_i hc2
        cases hf
        have ha := alikeB_all hc2.1
        have h40 := hc2.2
        unfold seqOf at q
        split at q
        · cases q
          obtain ⟨a, vs, rfl, h1, h2⟩ := h.lst
          obtain ⟨its, rv, hl, _⟩ := I.list h1.sq
          obtain ⟨as, rd⟩ := RpA.reads I _ vs its h2 rv
          rw [Vals.ref1 r]
          refine min_list_data (I.ok.hd hc) hl.isList rd ha (by show X.A.units + 1 + _ < cLine; omega) fun i v h' tk bs hi q hk => ?_
          obtain ⟨w, rel, rp⟩ := pick_out I h2 rv ha (minD_mem x xs) (by simpa using hi) q hk
          exact ⟨w, H, I.kept (t' := tk) hk, rel, rout_here ho rp⟩
        · cases q
          obtain ⟨a, vs, rfl, h1, h2⟩ := h.tup
          obtain ⟨its, rv, hl, _⟩ := I.tuple h1
          obtain ⟨as, rd⟩ := RpA.reads I _ vs its h2 rv
          rw [Vals.ref1 r]
          refine min_tuple_data (I.ok.hd hc) hl rd ha (by show X.A.units + 1 + _ < cLine; omega) fun i v h' tk bs hi q hk => ?_
          obtain ⟨w, rel, rp⟩ := pick_out I h2 rv ha (minD_mem x xs) (by simpa using hi) q hk
          exact ⟨w, H, I.kept (t' := tk) hk, rel, rout_here ho rp⟩
        · cases q
      · cases hf
    · cases hf
  · cases hf
open PySem.W in
theorem c_max1 {k : Nat} (hc : X.calm = true) (hr : L2H.RoomH k X.A) : CallR X (.builtin "max") (rN X.K (bestF maxD)) := by
  intro pins s σ H xs us Q I r ⟨Z, ds, e, hz, hd, hf, ho⟩
  have hu := room_eq hr (show 60 ≤ 60 by decide)
  unfold bestF at hf
  split at hf
  · obtain ⟨v, rfl, h⟩ := rts1 hd
    split at hf
    · rename_i x xs q
      split at hf
      · rename_i hc2
        cases hf
        have ha := alikeB_all hc2.1
        have h40 := hc2.2
        unfold seqOf at q
        split at q
        · cases q
          obtain ⟨a, vs, rfl, h1, h2⟩ := h.lst
          obtain ⟨its, rv, hl, _⟩ := I.list h1.sq
          obtain ⟨as, rd⟩ := RpA.reads I _ vs its h2 rv
          rw [Vals.ref1 r]
          refine max_list_data (I.ok.hd hc) hl.isList rd ha (by show X.A.units + 1 + _ < cLine; omega) fun i v h' tk bs hi q hk => ?_
          obtain ⟨w, rel, rp⟩ := pick_out I h2 rv ha (maxD_mem x xs) (by simpa using hi) q hk
          exact ⟨w, H, I.kept (t' := tk) hk, rel, rout_here ho rp⟩
        · cases q
          obtain ⟨a, vs, rfl, h1, h2⟩ := h.tup
          obtain ⟨its, rv, hl, _⟩ := I.tuple h1
          obtain ⟨as, rd⟩ := RpA.reads I _ vs its h2 rv
          rw [Vals.ref1 r]
          refine max_tuple_data (I.ok.hd hc) hl rd ha (by show X.A.units + 1 + _ < cLine; omega) fun i v h' tk bs hi q hk => ?_
          obtain ⟨w, rel, rp⟩ := pick_out I h2 rv ha (maxD_mem x xs) (by simpa using hi) q hk
          exact ⟨w, H, I.kept (t' := tk) hk, rel, rout_here ho rp⟩
        · cases q
      · cases hf
    · cases hf
  · cases hf
end
end

section
variable [Wtp] [Tbl]
/-! ### sorted -/
def sortD (b : Bool) (xs : List PyData) : List PyData := xs.mergeSort (PySem.W.dataLe b id)
def sortB (xs : List PyData) : Bool := xs.all (fun x => xs.all (PySem.W.alike x)) && (xs.all (fun d => match d with | .tuple (_ :: _) => true | _ => false) || xs.all fun d => match d with | .none => false | .tuple _ => false | _ => true)
theorem sortB_all {xs : List PyData} (h : sortB xs = true) : PySem.W.AllAlike xs ∧ PySem.W.Sortable xs := by
  unfold sortB at h
  rw [Bool.and_eq_true, Bool.or_eq_true, List.all_eq_true, List.all_eq_true, List.all_eq_true] at h
  obtain ⟨h1, h2⟩ := h
  refine ⟨fun x hx y hy => List.all_eq_true.mp (h1 x hx) y hy, ?_⟩
  rcases h2 with h2 | h2
  · refine .inl fun d hd => ?_
    have := h2 d hd
    split at this
    · exact ⟨_, _, rfl⟩
    · cases this
  · refine .inr fun d hd => ?_
    have := h2 d hd
    split at this
    · cases this
    · cases this
    · rename_i a b
      exact ⟨a, b⟩
def srtN (b : Bool) : List PyData → Option (List PyData)
  | [d] => match seqOf d with
    | some xs => if sortB xs = true ∧ PyData.depthAll xs ≤ 40 ∧ xs.length ≤ 1000000 then some (sortD b xs) else none
    | none => none
  | _ => none
theorem depthAll_get {k : Nat} : ∀ {xs : List PyData}, PyData.depthAll xs ≤ k → ∀ x ∈ xs, x.depth ≤ k
  | [], _, x, h => absurd h List.not_mem_nil
  | y :: ys, h, x, hx => by
    rw [PyData.depthAll] at h
    rcases List.mem_cons.mp hx with rfl | hx
    · exact Nat.le_trans (Nat.le_max_left _ _) h
    · exact depthAll_get (Nat.le_trans (Nat.le_max_right _ _) h) x hx
section
open PySem.W
variable {prog : Program} {w : World} {A : Around} {E : Value → Shared → Prop} {s : Shared} {β : Type} {vs : List Value} {bs : List β} {enc : β → PyData} {R : Value → β → Prop}
theorem sortedHeap_at' {h : Heap} {a : Addr} {vs : List Value} {out : Array Value} {xs : Array Value} {n : Nat} (ho : h.get? a = some (seqObj "list" xs n)) : ∃ e, (sortedHeap h a vs out).get? a = some (seqObj "list" out e) := by
  unfold sortedHeap
  have h1 : (h.update a (Obj.mapSeq fun _ => #[])).get? a = some (Obj.mapSeq (fun _ => #[]) (seqObj "list" xs n)) := Heap.get?_update_self _ ho rfl
  have h2 := Heap.get?_push_of_some (seqObj "list" #[] 0) (Heap.get?_push_of_some (seqObj "tuple" vs.toArray 0) h1)
  have h3 := Heap.get?_update_self (Obj.mapSeq fun _ => out) h2 rfl
  exact ⟨_, h3⟩
theorem sortedHeap_old' {h : Heap} {a b : Addr} {vs : List Value} {out : Array Value} {o : Obj} (hb : b ≠ a) (e : h.get? b = some o) : (sortedHeap h a vs out).get? b = some o := by
  unfold sortedHeap
  rw [Heap.get?_update_ne _ _ _ _ hb]
  refine Heap.get?_push_of_some _ (Heap.get?_push_of_some _ ?_)
  rw [Heap.get?_update_ne _ _ _ _ hb]
  exact e
/-- the items of a list or a tuple, collected: where the new list lies -/
theorem gather {Q : List Value → Shared → Prop} {q : Addr} {T : String} {o : Obj} {xs : Array Value} {n : Nat} (hT : T = "list" ∨ T = "tuple") (ho : s.heap.get? q = some o) (hc : o.cls = .type T) (hd : o.data = .seq xs n) (hz : xs.size ≤ sizeLine)
    (fin : ∀ h', h'.objs.size = s.heap.objs.size + 1 → (∀ b u, s.heap.get? b = some u → h'.get? b = some u) → Q xs.toList { s with heap := h' }) : wpAny (model prog w) A (collect (.ref q)) Q E s := by
  generalize hp1 : s.heap.push { cls := .type "list", data := .seq ([] : List Value).toArray } = h1
  have at1 : h1.get? s.heap.objs.size = some { cls := .type "list", data := .seq #[] 0 } := by rw [← hp1]; exact Heap.get?_push_size _ rfl
  have kp1 : ∀ b u, s.heap.get? b = some u → h1.get? b = some u := fun b u e => by rw [← hp1]; exact Heap.get?_push_of_some _ e
  generalize hp2 : h1.update s.heap.objs.size (Obj.mapSeq (· ++ xs)) = h2
  have at2 := Heap.get?_update_self (Obj.mapSeq (· ++ xs)) at1 rfl
  rw [hp2] at at2
  have done : wpAny (model prog w) A (match Value.ref s.heap.objs.size with
      | Value.ref a => (do let u ← load a
                           match u.data with
                            | Data.seq zs _ => pure zs.toList
                            | _ => unsupported "internal:collect")
      | _ => unsupported "internal:collect") Q E { s with heap := h2 } := by
    show wpAny _ A (load s.heap.objs.size >>= _) _ _ { s with heap := h2 }
    refine wpAny_bind (wpAny_load at2 (wpAny_pure ?_))
    have e0 : (#[] : Array Value) ++ xs = xs := by simp
    show Q ((#[] : Array Value) ++ xs).toList { s with heap := h2 }
    rw [e0]
    refine fin h2 ?_ fun b u e => ?_
    · rw [← hp2, Heap.size_update, ← hp1, size_push']
    · rw [← hp2, Heap.get?_update_ne _ _ _ _ (Nat.ne_of_lt (Heap.lt_size e))]
      exact kp1 b u e
  unfold collect
  refine wpAny_bind (wpAny_runValue (codeAny_builtin PySem.F.entry_proto_collect ?_))
  rw [Around.under_plainId PySem.F.plain_proto_collect _]
  show wpAny _ A.in1 (newList [] >>= fun z => again (.builtin "list.__iadd__" ⟨[z, .ref q], []⟩)) _ _ s
  refine wpAny_bind (wpAny_newObj_type (wpAny_pure ⟨plainId_quiet PySem.F.plain_list_iadd _, codeAny_builtin PySem.F.entry_list_iadd ?_⟩))
  rw [Around.under_plainId PySem.F.plain_list_iadd _, hp1]
  show wpAny _ A.in1 (Builtin.List.listExtendWith (.ref s.heap.objs.size) (.ref q) (.ref s.heap.objs.size)) _ _ { s with heap := h1 }
  refine wpAny_mono (wpAny_extend_seq (A := A) (s := { s with heap := h1 }) (R := fun r t => r = .ok (.ret (.ref s.heap.objs.size)) ∧ t = { s with heap := h2 }) s.heap.objs.size q _ 0 hT at1 (kp1 _ _ ho) hc hd ⟨rfl, by rw [← hp2]⟩ (hsz := hz)) (fun r t ht => ?_) fun r t ht => absurd ht.1 (by simp)
  cases r with
  | again c => exact ⟨ht.1, codeAny_mono ht.2 fun r2 t2 ⟨e1, e2⟩ => by subst e1 e2; exact done⟩
  | done z =>
    obtain ⟨e1, e2⟩ := ht
    subst e2
    cases e1
    exact done
/-- sorted of a list or a tuple -/
theorem sorted_seq {l : Addr} {T : String} {o : Obj} {n : Nat} {kw : List (Str × Value)} {b : Bool} {Q : Value → Shared → Prop} (hT : T = "list" ∨ T = "tuple") (ho : s.heap.get? l = some o) (hc : o.cls = .type T) (hd : o.data = .seq vs.toArray n)
    (hk : ∀ x, Builtin.«list.sort» ⟨[.ref x], kw⟩ = Builtin.«list.sort» ⟨[.ref x], [(Str.ofString "reverse", .bool b)]⟩) (ha1 : argsOk "sorted" ⟨[.ref l], kw⟩) (ha2 : ∀ x, argsOk "list.sort" ⟨[.ref x], kw⟩)
    (e : EachIs R vs bs) (er : EachIs (fun v b => ∃ as, Reads s.heap v (enc b) as) vs bs) (hal : AllAlike (bs.map enc)) (hs : Sortable (bs.map enc)) (hL : bs.length ≤ sizeLine) (hu : ∀ b, b ∈ bs → A.units + 2 + (enc b).depth < cLine)
    (h : ∀ (h' : Heap) p out ep, s.heap.objs.size ≤ p → (∀ b o, s.heap.get? b = some o → h'.get? b = some o) → h'.get? p = some (seqObj "list" (List.toArray out) ep) → out.length = bs.length → EachIs R out (bs.mergeSort (dataLe b enc)) → Q (.ref p) { s with heap := h' }) :
    wpAny (model prog w) A (call (.builtin "sorted") [.ref l] kw) Q E s := by
  have hz : vs.length ≤ sizeLine := by rw [e.length]; exact hL
  refine call_function_entry_kw kind_sorted plain_sorted entry_sorted ha1 ?_
  unfold Builtin.«sorted»
  refine wpAny_bind (m := checkCount "sorted" 1 1 _) (wpAny_pure ?_)
  refine wpAny_bind (gather hT ho hc hd (by simpa using hz) fun h1 hsz kp => ?_)
  rw [show vs.toArray.toList = vs by simp]
  refine wpAny_bind (wpAny_newList ?_ hz)
  have hp : s.heap.objs.size ≤ h1.objs.size := by omega
  have hoL : (h1.push (seqObj "list" vs.toArray 0)).get? h1.objs.size = some (seqObj "list" vs.toArray 0) := Heap.get?_push_size _ rfl
  have kp2 : ∀ b o, s.heap.get? b = some o → b ≠ h1.objs.size ∧ (h1.push (seqObj "list" vs.toArray 0)).get? b = some o := fun b o q => ⟨Nat.ne_of_lt (Heap.lt_size (kp _ _ q)), Heap.get?_push_of_some _ (kp _ _ q)⟩
  show wpAny _ _ _ _ _ { s with heap := h1.push (seqObj "list" vs.toArray 0) }
  refine wpAny_bind (wpAny_holding (wpAny_call_entry_kw slot_list_sort ⟨_, hoL, rfl⟩ entry_list_sort ?body (ha2 _)))
  case body =>
    show wpAny (model prog w) A.in1.in1 (Builtin.«list.sort» ⟨[.ref h1.objs.size], kw⟩) _ _ _
    rw [hk]
    have er' : EachIs (fun v b => ∃ as, Reads (sortingHeap (h1.push (seqObj "list" vs.toArray 0)) h1.objs.size vs) v (enc b) as) vs bs := er.mono fun _ _ ⟨as, r⟩ => ⟨as, PyProof.Rows.Reads.keeps (fun c o q => sortingHeap_old (kp2 c o q).1 (kp2 c o q).2) r⟩
    refine list_sort_rev_vals (s := { s with heap := h1.push (seqObj "list" vs.toArray 0) }) hoL (SortsAt.data (s := { s with heap := sortingHeap (h1.push (seqObj "list" vs.toArray 0)) h1.objs.size vs }) (each_map (R := fun v d => ∃ as, Reads (sortingHeap (h1.push (seqObj "list" vs.toArray 0)) h1.objs.size vs) v d as) enc er') hal hs (bound_map hu)) hz ?_
    obtain ⟨ep, hat⟩ := sortedHeap_at' (vs := vs) (out := (sortVals (dataKind (sortingHeap (h1.push (seqObj "list" vs.toArray 0)) h1.objs.size vs) (bs.map enc)) b vs vs).toArray) hoL
    exact ⟨_, rfl, wpAny_pure ⟨_, rfl, h _ h1.objs.size _ ep hp (fun c o q => sortedHeap_old' (kp2 c o q).1 (kp2 c o q).2) hat (by rw [sortVals_length b rfl]; exact e.length) (sortVals_data b e er' hal)⟩⟩
end
section
variable {X : Cx} {pins : List (Addr × Obj)} {s : Shared} {σ : L2.St} {H : Hp} {Z : Addr → Prop}
open PySem.W in
theorem each_of {K : Frg} : ∀ {vs : List V} {us : List Value} {ds : List PyData}, RpA K H Z vs ds → Vals vs us → EachIs (fun u d => ∃ v, RelV v u ∧ Rp K H Z v d) us ds
  | _, _, _, .nil, .nil => .nil
  | _, _, _, .cons a b, .cons c d => .cons ⟨_, c, a⟩ (each_of b d)
open PySem.W in
theorem of_each {K : Frg} : ∀ {us : List Value} {ds : List PyData}, EachIs (fun u d => ∃ v, RelV v u ∧ Rp K H Z v d) us ds → ∃ vs, RpA K H Z vs ds ∧ Vals vs us
  | _, _, .nil => ⟨[], .nil, .nil⟩
  | _, _, .cons ⟨v, a, b⟩ c => by
    obtain ⟨vs, h1, h2⟩ := of_each c
    exact ⟨v :: vs, .cons b h1, .cons a h2⟩
open PySem.W in
theorem each_reads (I : Inv X pins σ H s) {us : List Value} {ds : List PyData} (h : EachIs (fun u d => ∃ v, RelV v u ∧ Rp X.K H Z v d) us ds) : EachIs (fun u d => ∃ as, Reads s.heap u d as) us ds :=
  h.mono fun u d ⟨v, a, b⟩ => Rp.reads I d v u b a
open PySem.W in
theorem sort_run {k : Nat} {b : Bool} {kw : List (Str × Value)} (hr : L2H.RoomH k X.A) {vs : List V} {us : List Value} {Q : VK} (I : Inv X pins σ H s) (r : Vals vs us) (h : rNwN X.K (srtN b) vs H Q)
    (hk : ∀ x, Builtin.«list.sort» ⟨[.ref x], kw⟩ = Builtin.«list.sort» ⟨[.ref x], [(Str.ofString "reverse", .bool b)]⟩) (ha1 : ∀ x, argsOk "sorted" ⟨[x], kw⟩) (ha2 : ∀ x, argsOk "list.sort" ⟨[.ref x], kw⟩) :
    wpAny (model X.prog X.w) X.A (call (.builtin "sorted") us kw) (EP X pins σ Q) X.xe s := by
  obtain ⟨Z, ds, ys, hd, hf, ho⟩ := h
  have hu := room_eq hr (show 60 ≤ 60 by decide)
  unfold srtN at hf
  split at hf
  · rename_i d
    obtain ⟨v, rfl, h⟩ := rts1 hd
    split at hf
    · rename_i xs q
      split at hf
      · rename_i hc
        cases hf
        obtain ⟨hal, hs⟩ := sortB_all hc.1
        have fin : ∀ {its : List Value} {ws : List V}, RpA X.K H Z ws xs → Vals ws its → ∀ {T : String} {o : Obj} {n : Nat} {l : Addr}, (T = "list" ∨ T = "tuple") → s.heap.get? l = some o → o.cls = .type T → o.data = .seq its.toArray n →
            wpAny (model X.prog X.w) X.A (call (.builtin "sorted") [.ref l] kw) (EP X pins σ Q) X.xe s := by
          intro its ws ra rv T o n l hT ho' hc' hd'
          have ee := each_of ra rv
          refine sorted_seq (enc := id) (bs := xs) (b := b) hT ho' hc' hd' hk (ha1 _) ha2 ee (each_reads I ee) (by rw [List.map_id]; exact hal) (by rw [List.map_id]; exact hs) (Nat.le_trans hc.2.2 line_lim) (fun d hd => ?_) fun h' p out ep hp kp hat hl eo => ?_
          · have := depthAll_get hc.2.1 d hd
            show X.A.units + 2 + d.depth < cLine
            omega
          · obtain ⟨vs', ra', rv'⟩ := of_each eo
            have hl2 : vs'.length = xs.length := by rw [rv'.length, hl]
            exact ⟨.ref p, upd H p (.lst vs'), I.laid (t' := s.toks) kp hp ⟨by rw [hl2]; exact Nat.le_trans hc.2.2 line_lim, out, ep, rv', hat⟩, rfl, ho p vs' (I.hok.fresh hp) ra'⟩
        unfold seqOf at q
        split at q
        · cases q
          obtain ⟨a, ws, rfl, h1, h2⟩ := h.lst
          obtain ⟨its, rv, hl, _⟩ := I.list h1.sq
          rw [Vals.ref1 r]
          obtain ⟨o, e1, e2, n, e3⟩ := hl.isList
          exact fin h2 rv (.inl rfl) e1 e2 e3
        · cases q
          obtain ⟨a, ws, rfl, h1, h2⟩ := h.tup
          obtain ⟨its, rv, hl, _⟩ := I.tuple h1
          rw [Vals.ref1 r]
          obtain ⟨o, e1, e2, n, e3⟩ := hl
          exact fin h2 rv (.inr rfl) e1 e2 e3
        · cases q
      · cases hf
    · cases hf
  · cases hf
theorem n_sorted {k : Nat} (hr : L2H.RoomH k X.A) : CallR X (.builtin "sorted") (rNwN X.K (srtN false)) := by
  intro pins s σ H xs us Q I r h
  exact sort_run (b := false) (kw := []) hr I r h PySem.W.plain_is_rev (fun _ => args_sorted1 _) fun _ => args_list_sort _
/-- what makes a new list makes data too -/
theorem c_of_n {id : Value} {f : List PyData → Option (List PyData)} (h : CallR X id (rNwN X.K f)) : CallR X id (rN X.K fun ds => (f ds).map .list) := by
  intro pins s σ H xs us Q I r ⟨Z, ds, ys, hz, hd, hf, ho⟩
  dsimp only at hf
  cases e : f ds with
  | none => rw [e] at hf; cases hf
  | some zs =>
    rw [e] at hf
    cases hf
    exact h pins s σ H xs us Q I r ⟨Z, ds, zs, hd, e, fun p vs hn ra => rout_lst hz ho ra p hn⟩
end
def srtF (b : Bool) (ds : List PyData) : Option PyData := (srtN b ds).map .list
section
variable {M : Md} {X : Cx} {B : Tb} {k : Nat} {cs : En → Sto → Rs (List Wv)} {p pos : Pos} {e : Expr} {es : List Expr}
theorem c_sorted (hr : L2H.RoomH k X.A) : CallR X (.builtin "sorted") (rN X.K (srtF false)) := c_of_n (n_sorted hr)
theorem de_callBN {f : List PyData → Option (List PyData)} {x : Str} {id : String} (c : Cxt M X B k) (hc : CallR X (.builtin id) (rNwN X.K f)) (j : Nat) (hg : B.gs[j]? = some x) (hm : M.mg x = none)
    (hv : bootBuiltins x = some (.builtin id)) (ha : DA X (e :: es) cs) (hn : x ≠ "__name__" := by decide) (hdb : (x == ("__debug__" : Str)) = false := by decide)
    (he : starEach (e :: es) X.env = (false, eval e X.env) :: starEach es X.env := by rfl) (hpl : (backTo pos (starEach es X.env)).any (·.1) = false := by rfl) : DE X (.Call (.Name x p) (e :: es) [] pos) (eOpNN f cs) :=
  ⟨fun W tk => PE.imp (pe_callB hc (c.gl j x hg) (by rw [c.mg]; exact hm) hv (ha.pa W tk) hn hdb he hpl) fun σ H Q => te_newN f⟩
end
end

section
variable [Wtp] [Tbl]
/-! ### calls with keywords -/
structure DKw (X : Cx) (kws : List Keyword) (c : En → Sto → Rs (List Wv)) : Prop where
  pk : ∀ W, Takes X W → PK X kws (tA X W c)
def eOpK (f : List PyData → List PyData → Option PyData) (cs ck : En → Sto → Rs (List Wv)) : En → Sto → Rs Wv := fun env st =>
  (cs env st).bind fun ws st1 => (ck env st1).bind fun zs st2 => match looks ws st2, looks zs st2 with
    | some ds, some es => ret1 (f ds es) st2
    | _, _ => .no
@[simp] theorem x_opK (env : En) (st : Sto) (f : List PyData → List PyData → Option PyData) (cs ck : En → Sto → Rs (List Wv)) : eOpK f cs ck env st = ((cs env st).bind fun ws st1 => (ck env st1).bind fun zs st2 => match looks ws st2, looks zs st2 with
    | some ds, some es => ret1 (f ds es) st2
    | _, _ => .no) := rfl
def eOpKN (f : List PyData → List PyData → Option (List PyData)) (cs ck : En → Sto → Rs (List Wv)) : En → Sto → Rs Wv := fun env st =>
  (cs env st).bind fun ws st1 => (ck env st1).bind fun zs st2 => match looks ws st2, looks zs st2 with
    | some ds, some es => newO (f ds es) st2
    | _, _ => .no
@[simp] theorem x_opKN (env : En) (st : Sto) (f : List PyData → List PyData → Option (List PyData)) (cs ck : En → Sto → Rs (List Wv)) : eOpKN f cs ck env st = ((cs env st).bind fun ws st1 => (ck env st1).bind fun zs st2 => match looks ws st2, looks zs st2 with
    | some ds, some es => newO (f ds es) st2
    | _, _ => .no) := rfl
def rNK (K : Frg) (f : List PyData → List PyData → Option PyData) : List V → List V → Hp → VK → Prop := fun vs zs H Q => ∃ Z ds es r, (∀ a, H a = none → Z a) ∧ RTs K H Z vs ds ∧ RTs K H Z zs es ∧ f ds es = some r ∧ rOut K H Z r Q
def rNKN (K : Frg) (f : List PyData → List PyData → Option (List PyData)) : List V → List V → Hp → VK → Prop := fun vs zs H Q => ∃ Z ds es r, RTs K H Z vs ds ∧ RTs K H Z zs es ∧ f ds es = some r ∧ nOut K H Z r Q
section
variable {M : Md} {X : Cx} {B : Tb} {k : Nat} {σ : L2.St} {H : Hp} {W : WX} {cs ck : En → Sto → Rs (List Wv)} {ca : En → Sto → Rs Wv} {pos p : Pos} {e : Expr} {es : List Expr} {kws : List Keyword}
theorem dk_nil : DKw X [] aNil := ⟨fun W tk => ⟨fun pos pins s σ H Q I ⟨m, env, st, S, R, hp⟩ => pk_nil.run pos pins s σ H Q I (hp [] H m .refl S .nil)⟩⟩
theorem PK.imp {e : List Keyword} {t t' : TA} (h : PK X e t) (q : ∀ σ H Q, t' σ H Q → t σ H Q) : PK X e t' := ⟨fun pos pins s σ H Q I x => h.run pos pins s σ H Q I (q σ H Q x)⟩
theorem dk_cons {nm : Option Str} {kpos : Pos} (ha : DE X e ca) (hr : DKw X kws cs) : DKw X (⟨nm, e, kpos⟩ :: kws) (aCons ca cs) := by
  refine ⟨fun W tk => PK.imp (pk_cons (ha.pe W tk) (hr.pk W tk)) fun σ H Q ⟨m, env, st, S, R, hp⟩ => ?_⟩
  unfold aCons at hp
  rw [Rs.post_bind] at hp
  refine ⟨m, env, st, S, R, Rs.post_mono hp (fun w st1 q v H1 m1 f1 S1 r1 => ?_) fun _ _ q => q⟩
  rw [Rs.post_bind] at q
  refine ⟨m1, env, st1, S1, R.mv f1, Rs.post_mono q (fun ws st2 q vs H2 m2 f2 S2 r2 => ?_) fun _ _ q => okX.tr f1 q⟩
  exact q (v :: vs) H2 m2 (f1.trans f2) S2 (.cons (r1.mv f2) r2)
theorem te_opK (f : List PyData → List PyData → Option PyData) {Q : VK} (h : tE X W (eOpK f cs ck) σ H Q) : tCKw (rNK X.K f) (tA X W cs) (tA X W ck) σ H Q := by
  obtain ⟨m, env, st, S, R, hp⟩ := h
  unfold eOpK at hp
  rw [Rs.post_bind] at hp
  refine ⟨m, env, st, S, R, Rs.post_mono hp (fun ws st1 q vs H1 m1 f1 S1 r1 => ?_) fun _ _ q => q⟩
  rw [Rs.post_bind] at q
  refine ⟨m1, env, st1, S1, R.mv f1, Rs.post_mono q (fun zs st2 q us H2 m2 f2 S2 r2 => ?_) fun _ _ q => okX.tr f1 q⟩
  split at q
  · rename_i ds es e1 e2
    obtain ⟨r, e3, q⟩ := ret1_post q
    exact ⟨_, ds, es, r, fun a => S2.fresh, looks_rt S2 (r1.mv f2) e1, looks_rt S2 r2 e2, e3, okE.out (f1.trans f2) S2 q⟩
  · exact q.elim
theorem te_opKN (f : List PyData → List PyData → Option (List PyData)) {Q : VK} (h : tE X W (eOpKN f cs ck) σ H Q) : tCKw (rNKN X.K f) (tA X W cs) (tA X W ck) σ H Q := by
  obtain ⟨m, env, st, S, R, hp⟩ := h
  unfold eOpKN at hp
  rw [Rs.post_bind] at hp
  refine ⟨m, env, st, S, R, Rs.post_mono hp (fun ws st1 q vs H1 m1 f1 S1 r1 => ?_) fun _ _ q => q⟩
  rw [Rs.post_bind] at q
  refine ⟨m1, env, st1, S1, R.mv f1, Rs.post_mono q (fun zs st2 q us H2 m2 f2 S2 r2 => ?_) fun _ _ q => okX.tr f1 q⟩
  split at q
  · rename_i ds es e1 e2
    obtain ⟨xs, e3, o⟩ := nOut_of (f1.trans f2) S2 q
    exact ⟨_, ds, es, xs, looks_rt S2 (r1.mv f2) e1, looks_rt S2 r2 e2, e3, o⟩
  · exact q.elim
theorem de_callK {f : List PyData → List PyData → Option PyData} {x : Str} {id : String} {ks : List Str} (c : Cxt M X B k) (hc : CallRK X (.builtin id) ks (rNK X.K f)) (j : Nat) (hg : B.gs[j]? = some x) (hm : M.mg x = none)
    (hv : bootBuiltins x = some (.builtin id)) (ha : DA X (e :: es) cs) (hk : DKw X kws ck) (hn : x ≠ "__name__" := by decide) (hdb : (x == ("__debug__" : Str)) = false := by decide)
    (he : backTo pos (starEach (e :: es) X.env) = (false, eval e X.env) :: backTo pos (starEach es X.env) := by rfl) (hpl : (backTo pos (starEach (e :: es) X.env)).any (·.1) = false := by rfl)
    (hall : (backToKw pos (keywordEach kws X.env)).all (·.1.isSome) = true := by rfl) (hnone : (backToKw pos (keywordEach kws X.env)).any (·.1.isNone) = false := by rfl) (hks : (backToKw pos (keywordEach kws X.env)).filterMap (·.1) = ks := by rfl) :
    DE X (.Call (.Name x p) (e :: es) kws pos) (eOpK f cs ck) :=
  ⟨fun W tk => PE.imp (pe_callBK hc (c.gl j x hg) (by rw [c.mg]; exact hm) hv (ha.pa W tk) (hk.pk W tk) hn hdb he hpl hall hnone hks) fun σ H Q => te_opK f⟩
theorem de_callKN {f : List PyData → List PyData → Option (List PyData)} {x : Str} {id : String} {ks : List Str} (c : Cxt M X B k) (hc : CallRK X (.builtin id) ks (rNKN X.K f)) (j : Nat) (hg : B.gs[j]? = some x) (hm : M.mg x = none)
    (hv : bootBuiltins x = some (.builtin id)) (ha : DA X (e :: es) cs) (hk : DKw X kws ck) (hn : x ≠ "__name__" := by decide) (hdb : (x == ("__debug__" : Str)) = false := by decide)
    (he : backTo pos (starEach (e :: es) X.env) = (false, eval e X.env) :: backTo pos (starEach es X.env) := by rfl) (hpl : (backTo pos (starEach (e :: es) X.env)).any (·.1) = false := by rfl)
    (hall : (backToKw pos (keywordEach kws X.env)).all (·.1.isSome) = true := by rfl) (hnone : (backToKw pos (keywordEach kws X.env)).any (·.1.isNone) = false := by rfl) (hks : (backToKw pos (keywordEach kws X.env)).filterMap (·.1) = ks := by rfl) :
    DE X (.Call (.Name x p) (e :: es) kws pos) (eOpKN f cs ck) :=
  ⟨fun W tk => PE.imp (pe_callBK hc (c.gl j x hg) (by rw [c.mg]; exact hm) hv (ha.pa W tk) (hk.pk W tk) hn hdb he hpl hall hnone hks) fun σ H Q => te_opKN f⟩
end
/-! ### a comprehension given to a captured name -/
theorem sw_cell {M : Md} {X : Cx} {B : Tb} {k : Nat} {y : Str} {py pos : Pos} {elt : Expr} {gs : List Comprehension} {sc : Scope} {line : Nat} (c : Cxt M X B k) (h : y ∈ B.cs) : swapsWith (.ListComp elt gs sc pos) (some (.Name y py)) line X.env = pure false := by
  have e := notLoc c h
  show (do return X.env.blockKind == .function && X.env.kindOf y == some .local && py.line == pos.line && !(sc.names.any fun (n, k) => n == y && (k == .local || k == .cell)) : Sem Bool) = pure false
  have e2 : (X.env.kindOf y == some NameKind.local) = false := by simpa using e
  rw [e2, Bool.and_false, Bool.false_and, Bool.false_and]
/-! ### min(xs, default=d), max(xs, default=d) -/
open PySem.W in
def bestK (f : PyData → List PyData → PyData) : List PyData → List PyData → Option PyData
  | [d], [e] => match seqOf d with
    | some [] => (match e with
      | .none => some .none
      | .int i => some (.int i)
      | _ => none)
    | some (x :: xs) => if alikeB (x :: xs) = true ∧ PyData.depthAll (x :: xs) ≤ 40 then some (f x xs) else none
    | none => none
  | _, _ => none
section
variable {X : Cx} {pins : List (Addr × Obj)} {s : Shared} {σ : L2.St} {H : Hp} {Z : Addr → Prop}
open PySem.W in
theorem c_minK {k : Nat} (hc : X.calm = true) (hr : L2H.RoomH k X.A) : CallRK X (.builtin "min") [Str.ofString "default"] (rNK X.K (bestK minD)) := by
  intro pins s σ H xs zs us ws Q I r rz ⟨Z, ds, es, e, hz, hd, he, hf, ho⟩
  have hu := room_eq hr (show 60 ≤ 60 by decide)
  unfold bestK at hf
  split at hf
  · rename_i d0 e0
    obtain ⟨v, rfl, h⟩ := rts1 hd
    obtain ⟨z, rfl, h'⟩ := rts1 he
    obtain ⟨u', rfl, rz'⟩ := vals1 rz
    have fin : ∀ {its : List Value} {vs : List V} {xs : List PyData}, seqOf d0 = some xs → RpA X.K H Z vs xs → Vals vs its → AlikeAll xs ∧ PyData.depthAll xs ≤ 40 ∧ (xs = [] → ∀ h' tk, (∀ b o, s.heap.get? b = some o → h'.get? b = some o) → EP X pins σ Q u' { s with heap := h', toks := tk }) ∧
        (∀ (y : PyData) (ys : List PyData) (i : Nat) v h' tk bs, xs = y :: ys → its.toArray[i]? = some v → Reads h' v (minD y ys) bs → (∀ b o, s.heap.get? b = some o → h'.get? b = some o) → EP X pins σ Q v { s with heap := h', toks := tk }) := by
      intro its vs xs q ra rv
      rw [q] at hf
      cases xs with
      | nil =>
        refine ⟨⟨fun x hx => absurd hx List.not_mem_nil, fun x hx => absurd hx List.not_mem_nil⟩, Nat.zero_le _, fun _ h' tk kp => ?_, fun y ys i v h' tk bs z => nomatch z⟩
        dsimp only at hf
        split at hf
        · cases hf
          have := h'.non
          subst this
          exact ⟨.non, H, I.kept (t' := tk) kp, rz', rout_here ho .non⟩
        · cases hf
          have := h'.int
          subst this
          exact ⟨_, H, I.kept (t' := tk) kp, rz', rout_here ho (.int _)⟩
        · cases hf
      | cons x xs =>
        dsimp only at hf
        split at hf
        · rename_i hc2
          cases hf
          have ha := alikeB_all hc2.1
          refine ⟨ha, hc2.2, (fun z => absurd z (List.cons_ne_nil _ _)), fun y ys i v h' tk bs e1 hi q kp => ?_⟩
          cases e1
          obtain ⟨w, rel, rp⟩ := pick_out I ra rv ha (minD_mem x xs) (by simpa using hi) q kp
          exact ⟨w, H, I.kept (t' := tk) kp, rel, rout_here ho rp⟩
        · cases hf
    cases d0 with
    | list xs =>
      obtain ⟨a, vs, rfl, h1, h2⟩ := h.lst
      obtain ⟨its, rv, hl, _⟩ := I.list h1.sq
      obtain ⟨as, rd⟩ := RpA.reads I _ vs its h2 rv
      obtain ⟨f1, f2, f3, f4⟩ := fin rfl h2 rv
      rw [Vals.ref1 r]
      exact min_list_default (I.ok.hd hc) hl.isList rd f1 (by show X.A.units + 1 + _ < cLine; omega) f3 f4
    | tuple xs =>
      obtain ⟨a, vs, rfl, h1, h2⟩ := h.tup
      obtain ⟨its, rv, hl, _⟩ := I.tuple h1
      obtain ⟨as, rd⟩ := RpA.reads I _ vs its h2 rv
      obtain ⟨f1, f2, f3, f4⟩ := fin rfl h2 rv
      rw [Vals.ref1 r]
      exact min_tuple_default (I.ok.hd hc) hl rd f1 (by show X.A.units + 1 + _ < cLine; omega) f3 f4
    | _ => cases hf
  · cases hf
open PySem.W in
theorem c_maxK {k : Nat} (hc : X.calm = true) (hr : L2H.RoomH k X.A) : CallRK X (.builtin "max") [Str.ofString "default"] (rNK X.K (bestK maxD)) := by
  intro pins s σ H xs zs us ws Q I r rz ⟨Z, ds, es, e, hz, hd, he, hf, ho⟩
  have hu := room_eq hr (show 60 ≤ 60 by decide)
  unfold bestK at hf
  split at hf
  · rename_i d0 e0
    obtain ⟨v, rfl, h⟩ := rts1 hd
    obtain ⟨z, rfl, h'⟩ := rts1 he
    obtain ⟨u', rfl, rz'⟩ := vals1 rz
    have fin : ∀ {its : List Value} {vs : List V} {xs : List PyData}, seqOf d0 = some xs → RpA X.K H Z vs xs → Vals vs its → AlikeAll xs ∧ PyData.depthAll xs ≤ 40 ∧ (xs = [] → ∀ h' tk, (∀ b o, s.heap.get? b = some o → h'.get? b = some o) → EP X pins σ Q u' { s with heap := h', toks := tk }) ∧
        (∀ (y : PyData) (ys : List PyData) (i : Nat) v h' tk bs, xs = y :: ys → its.toArray[i]? = some v → Reads h' v (maxD y ys) bs → (∀ b o, s.heap.get? b = some o → h'.get? b = some o) → EP X pins σ Q v { s with heap := h', toks := tk }) := by
      intro its vs xs q ra rv
      rw [q] at hf
      cases xs with
      | nil =>
        refine ⟨⟨fun x hx => absurd hx List.not_mem_nil, fun x hx => absurd hx List.not_mem_nil⟩, Nat.zero_le _, fun _ h' tk kp => ?_, fun y ys i v h' tk bs z => nomatch z⟩
        dsimp only at hf
        split at hf
        · cases hf
          have := h'.non
          subst this
          exact ⟨.non, H, I.kept (t' := tk) kp, rz', rout_here ho .non⟩
        · cases hf
          have := h'.int
          subst this
          exact ⟨_, H, I.kept (t' := tk) kp, rz', rout_here ho (.int _)⟩
        · cases hf
      | cons x xs =>
        dsimp only at hf
        split at hf
        · rename_i hc2
          cases hf
          have ha := alikeB_all hc2.1
          refine ⟨ha, hc2.2, (fun z => absurd z (List.cons_ne_nil _ _)), fun y ys i v h' tk bs e1 hi q kp => ?_⟩
          cases e1
          obtain ⟨w, rel, rp⟩ := pick_out I ra rv ha (maxD_mem x xs) (by simpa using hi) q kp
          exact ⟨w, H, I.kept (t' := tk) kp, rel, rout_here ho rp⟩
        · cases hf
    cases d0 with
    | list xs =>
      obtain ⟨a, vs, rfl, h1, h2⟩ := h.lst
      obtain ⟨its, rv, hl, _⟩ := I.list h1.sq
      obtain ⟨as, rd⟩ := RpA.reads I _ vs its h2 rv
      obtain ⟨f1, f2, f3, f4⟩ := fin rfl h2 rv
      rw [Vals.ref1 r]
      exact max_list_default (I.ok.hd hc) hl.isList rd f1 (by show X.A.units + 1 + _ < cLine; omega) f3 f4
    | tuple xs =>
      obtain ⟨a, vs, rfl, h1, h2⟩ := h.tup
      obtain ⟨its, rv, hl, _⟩ := I.tuple h1
      obtain ⟨as, rd⟩ := RpA.reads I _ vs its h2 rv
      obtain ⟨f1, f2, f3, f4⟩ := fin rfl h2 rv
      rw [Vals.ref1 r]
      exact max_tuple_default (I.ok.hd hc) hl rd f1 (by show X.A.units + 1 + _ < cLine; omega) f3 f4
    | _ => cases hf
  · cases hf
/-! ### sorted(xs, reverse=True) -/
def srtK : List PyData → List PyData → Option (List PyData)
  | ds, [.bool b] => srtN b ds
  | _, _ => none
theorem n_sortedR {k : Nat} (hr : L2H.RoomH k X.A) : CallRK X (.builtin "sorted") [Str.ofString "reverse"] (rNKN X.K srtK) := by
  intro pins s σ H xs zs us ws Q I r rz ⟨Z, ds, es, ys, hd, he, hf, ho⟩
  unfold srtK at hf
  split at hf
  · rename_i b
    obtain ⟨z, rfl, h'⟩ := rts1 he
    obtain ⟨u', rfl, rz'⟩ := vals1 rz
    have := h'.bl
    subst this
    cases (show u' = Value.bool b from rz')
    exact sort_run (b := b) hr I r ⟨Z, ds, ys, hd, hf, ho⟩ (fun _ => rfl) (fun _ => args_sorted_rev _ _) fun _ => args_list_sort_rev _ _
  · cases hf
theorem ck_of_n {id : Value} {ks : List Str} {f : List PyData → List PyData → Option (List PyData)} (h : CallRK X id ks (rNKN X.K f)) : CallRK X id ks (rNK X.K fun ds es => (f ds es).map .list) := by
  intro pins s σ H xs zs us ws Q I r rz ⟨Z, ds, es, ys, hz, hd, he, hf, ho⟩
  dsimp only at hf
  cases e : f ds es with
  | none => rw [e] at hf; cases hf
  | some l =>
    rw [e] at hf
    cases hf
    exact h pins s σ H xs zs us ws Q I r rz ⟨Z, ds, es, l, hd, he, e, fun p vs hn ra => rout_lst hz ho ra p hn⟩
end
def srtKF (ds es : List PyData) : Option PyData := (srtK ds es).map .list
theorem c_sortedR {X : Cx} {k : Nat} (hr : L2H.RoomH k X.A) : CallRK X (.builtin "sorted") [Str.ofString "reverse"] (rNK X.K srtKF) := ck_of_n (n_sortedR hr)
end

section
variable [Wtp] [Tbl]
/-! ### best and sorted of alike data -/
open PySem.W in
theorem alikeB_of {P : PyData → Prop} {xs : List PyData} (h : ∀ x ∈ xs, P x) (hp : ∀ x y, P x → P y → alike x y = true) (hn : ∀ x, P x → x ≠ .none) : alikeB xs = true := by
  unfold alikeB
  rw [Bool.and_eq_true, List.all_eq_true, List.all_eq_true]
  refine ⟨fun x hx => List.all_eq_true.mpr fun y hy => hp x y (h x hx) (h y hy), fun x hx => ?_⟩
  have := hn x (h x hx)
  cases x <;> first | rfl | exact absurd rfl this
open PySem.W in
theorem sortB_of {P : PyData → Prop} {xs : List PyData} (h : ∀ x ∈ xs, P x) (hp : ∀ x y, P x → P y → alike x y = true) (hn : (∀ x, P x → ∃ y ys, x = .tuple (y :: ys)) ∨ ∀ x, P x → x ≠ .none ∧ ∀ ys, x ≠ .tuple ys) : sortB xs = true := by
  unfold sortB
  rw [Bool.and_eq_true, List.all_eq_true]
  refine ⟨fun x hx => List.all_eq_true.mpr fun y hy => hp x y (h x hx) (h y hy), ?_⟩
  rw [Bool.or_eq_true, List.all_eq_true, List.all_eq_true]
  rcases hn with hn | hn
  · refine .inl fun x hx => ?_
    obtain ⟨y, ys, rfl⟩ := hn x (h x hx)
    rfl
  · refine .inr fun x hx => ?_
    obtain ⟨h1, h2⟩ := hn x (h x hx)
    cases x <;> first | rfl | exact absurd rfl h1 | exact absurd rfl (h2 _)
theorem best_ok {f : PyData → List PyData → PyData} {x : PyData} {xs : List PyData} (h : alikeB (x :: xs) = true) (hd : ∀ y ∈ x :: xs, y.depth ≤ 40) : bestF f [.list (x :: xs)] = some (f x xs) := by
  have hd' := depthAll_le hd
  unfold bestF seqOf
  dsimp only
  rw [if_pos ⟨h, hd'⟩]
theorem bestK_ok {f : PyData → List PyData → PyData} {x e : PyData} {xs : List PyData} (h : alikeB (x :: xs) = true) (hd : ∀ y ∈ x :: xs, y.depth ≤ 40) : bestK f [.list (x :: xs)] [e] = some (f x xs) := by
  have hd' := depthAll_le hd
  unfold bestK seqOf
  dsimp only
  rw [if_pos ⟨h, hd'⟩]
theorem bestK_okT {f : PyData → List PyData → PyData} {x e : PyData} {xs : List PyData} (h : alikeB (x :: xs) = true) (hd : ∀ y ∈ x :: xs, y.depth ≤ 40) : bestK f [.tuple (x :: xs)] [e] = some (f x xs) := by
  have hd' := depthAll_le hd
  unfold bestK seqOf
  dsimp only
  rw [if_pos ⟨h, hd'⟩]
@[simp] theorem bestK_nil_n (f : PyData → List PyData → PyData) : bestK f [.list []] [.none] = some .none := rfl
@[simp] theorem bestK_nil_i (f : PyData → List PyData → PyData) (i : Int) : bestK f [.list []] [.int i] = some (.int i) := rfl
@[simp] theorem bestK_nilT_n (f : PyData → List PyData → PyData) : bestK f [.tuple []] [.none] = some .none := rfl
@[simp] theorem bestK_nilT_i (f : PyData → List PyData → PyData) (i : Int) : bestK f [.tuple []] [.int i] = some (.int i) := rfl
theorem srt_ok {b : Bool} {xs : List PyData} (h : sortB xs = true) (hd : ∀ y ∈ xs, y.depth ≤ 40) (hl : xs.length ≤ 1000000) : srtN b [.list xs] = some (sortD b xs) := by
  have hd' := depthAll_le hd
  unfold srtN seqOf
  dsimp only
  rw [if_pos ⟨h, hd', hl⟩]
theorem srt_okT {b : Bool} {xs : List PyData} (h : sortB xs = true) (hd : ∀ y ∈ xs, y.depth ≤ 40) (hl : xs.length ≤ 1000000) : srtN b [.tuple xs] = some (sortD b xs) := by
  have hd' := depthAll_le hd
  unfold srtN seqOf
  dsimp only
  rw [if_pos ⟨h, hd', hl⟩]
theorem srtF_of {b : Bool} {d : PyData} {ys : List PyData} (h : srtN b [d] = some ys) : srtF b [d] = some (.list ys) := by unfold srtF; rw [h]; rfl
theorem srtKF_of {b : Bool} {d : PyData} {ys : List PyData} (h : srtN b [d] = some ys) : srtKF [d] [.bool b] = some (.list ys) := by unfold srtKF srtK; dsimp only; rw [h]; rfl
theorem sortD_perm (b : Bool) (xs : List PyData) : (sortD b xs).Perm xs := List.mergeSort_perm _ _
theorem sortD_mem {b : Bool} {xs : List PyData} {x : PyData} : x ∈ sortD b xs ↔ x ∈ xs := (sortD_perm b xs).mem_iff
theorem sortD_len (b : Bool) (xs : List PyData) : (sortD b xs).length = xs.length := (sortD_perm b xs).length_eq
/-- the same order on what the data are made of -/
def sortT {α : Type} (b : Bool) (enc : α → PyData) (xs : List α) : List α := xs.mergeSort (PySem.W.dataLe b enc)
theorem sortD_map {α : Type} (b : Bool) (enc : α → PyData) (xs : List α) : sortD b (xs.map enc) = (sortT b enc xs).map enc := by
  unfold sortD sortT
  rw [List.map_mergeSort (s := PySem.W.dataLe b id)]
  intro x _ y _
  rfl
theorem sortT_perm {α : Type} (b : Bool) (enc : α → PyData) (xs : List α) : (sortT b enc xs).Perm xs := List.mergeSort_perm _ _
theorem sortT_mem {α : Type} {b : Bool} {enc : α → PyData} {xs : List α} {x : α} : x ∈ sortT b enc xs ↔ x ∈ xs := (sortT_perm b enc xs).mem_iff
theorem sortT_len {α : Type} (b : Bool) (enc : α → PyData) (xs : List α) : (sortT b enc xs).length = xs.length := (sortT_perm b enc xs).length_eq
@[simp] theorem sortT_nil {α : Type} (b : Bool) (enc : α → PyData) : sortT b enc [] = [] := by simp [sortT]
/-! ### ints -/
def IsI (d : PyData) : Prop := ∃ i : Int, d = .int i
def IsP (d : PyData) : Prop := ∃ i j : Int, d = .tuple [.int i, .int j]
theorem isI_alike (x y : PyData) (h : IsI x) (k : IsI y) : PySem.W.alike x y = true := by obtain ⟨i, rfl⟩ := h; obtain ⟨j, rfl⟩ := k; rfl
theorem isI_nn (x : PyData) (h : IsI x) : x ≠ .none := by obtain ⟨i, rfl⟩ := h; exact fun z => nomatch z
theorem isI_ns (x : PyData) (h : IsI x) : x ≠ .none ∧ ∀ ys, x ≠ .tuple ys := by obtain ⟨i, rfl⟩ := h; exact ⟨(fun z => nomatch z), (fun _ z => nomatch z)⟩
theorem isP_alike (x y : PyData) (h : IsP x) (k : IsP y) : PySem.W.alike x y = true := by obtain ⟨i, i', rfl⟩ := h; obtain ⟨j, j', rfl⟩ := k; rfl
theorem isP_nn (x : PyData) (h : IsP x) : x ≠ .none := by obtain ⟨i, j, rfl⟩ := h; exact fun z => nomatch z
theorem isP_ns (x : PyData) (h : IsP x) : ∃ y ys, x = .tuple (y :: ys) := by obtain ⟨i, j, rfl⟩ := h; exact ⟨_, _, rfl⟩
def encP (p : Int × Int) : PyData := .tuple [.int p.1, .int p.2]
@[simp] theorem depth_int (i : Int) : (PyData.int i).depth = 0 := rfl
@[simp] theorem depth_pair (i j : Int) : (PyData.tuple [.int i, .int j]).depth = 1 := rfl
theorem ints_I (ns : List Int) : ∀ x ∈ ns.map PyData.int, IsI x := fun x hx => by obtain ⟨i, _, rfl⟩ := List.mem_map.mp hx; exact ⟨i, rfl⟩
theorem ints_P (ps : List (Int × Int)) : ∀ x ∈ ps.map encP, IsP x := fun x hx => by obtain ⟨p, _, rfl⟩ := List.mem_map.mp hx; exact ⟨_, _, rfl⟩
theorem isI_d {x : PyData} (h : IsI x) : x.depth ≤ 40 := by obtain ⟨i, rfl⟩ := h; exact Nat.zero_le _
theorem isP_d {x : PyData} (h : IsP x) : x.depth ≤ 40 := by obtain ⟨i, j, rfl⟩ := h; rw [depth_pair]; decide
/-- the least, the greatest of ints -/
def mnI (x : Int) (xs : List Int) : Int := xs.foldl (fun a y => if y < a then y else a) x
def mxI (x : Int) (xs : List Int) : Int := xs.foldl (fun a y => if a < y then y else a) x
theorem dataLt_i (i j : Int) : PySem.W.dataLt (.int i) (.int j) = decide (i < j) := by
  have h := congrFun (congrFun (PySem.W.dataLe_int (fun x : Int => x)) j) i
  have h2 : PySem.W.dataLe false (fun b : Int => PyData.int b) j i = !PySem.W.dataLt (.int i) (.int j) := rfl
  rw [h2] at h
  have : (!PySem.W.dataLt (.int i) (.int j)) = decide (j ≤ i) := h
  by_cases q : i < j
  · have e : decide (j ≤ i) = false := by simp; omega
    rw [e] at this
    simpa [q] using this
  · have e : decide (j ≤ i) = true := by simp; omega
    rw [e] at this
    simpa [q] using this
theorem minD_int : ∀ (xs : List Int) (x : Int), PySem.W.minD (.int x) (xs.map .int) = .int (mnI x xs)
  | [], x => rfl
  | y :: ys, x => by
    show PySem.W.minD (if PySem.W.dataLt (.int y) (.int x) then .int y else .int x) (ys.map .int) = .int (mnI (if y < x then y else x) ys)
    rw [dataLt_i]
    by_cases q : y < x
    · rw [if_pos (by simpa using q), if_pos q]; exact minD_int ys y
    · rw [if_neg (by simpa using q), if_neg q]; exact minD_int ys x
theorem maxD_int : ∀ (xs : List Int) (x : Int), PySem.W.maxD (.int x) (xs.map .int) = .int (mxI x xs)
  | [], x => rfl
  | y :: ys, x => by
    show PySem.W.maxD (if PySem.W.dataLt (.int x) (.int y) then .int y else .int x) (ys.map .int) = .int (mxI (if x < y then y else x) ys)
    rw [dataLt_i]
    by_cases q : x < y
    · rw [if_pos (by simpa using q), if_pos q]; exact maxD_int ys y
    · rw [if_neg (by simpa using q), if_neg q]; exact maxD_int ys x
theorem mnI_mem : ∀ (xs : List Int) (x : Int), mnI x xs ∈ x :: xs
  | [], x => by simp [mnI]
  | y :: ys, x => by
    have h := mnI_mem ys (if y < x then y else x)
    have e : mnI x (y :: ys) = mnI (if y < x then y else x) ys := rfl
    rw [e]
    rcases List.mem_cons.mp h with h | h
    · rw [h]; split <;> simp
    · simp [h]
theorem mnI_le : ∀ (xs : List Int) (x : Int), ∀ y ∈ x :: xs, mnI x xs ≤ y
  | [], x, y, h => by simp at h; subst h; exact Int.le_refl _
  | z :: zs, x, y, h => by
    have e : mnI x (z :: zs) = mnI (if z < x then z else x) zs := rfl
    have h1 := mnI_le zs (if z < x then z else x) _ (List.mem_cons_self ..)
    rw [e]
    rcases List.mem_cons.mp h with rfl | h
    · split at h1 <;> split <;> omega
    · rcases List.mem_cons.mp h with rfl | h
      · split at h1 <;> split <;> omega
      · exact mnI_le zs _ y (List.mem_cons_of_mem _ h)
theorem mxI_mem : ∀ (xs : List Int) (x : Int), mxI x xs ∈ x :: xs
  | [], x => by simp [mxI]
  | y :: ys, x => by
    have h := mxI_mem ys (if x < y then y else x)
    have e : mxI x (y :: ys) = mxI (if x < y then y else x) ys := rfl
    rw [e]
    rcases List.mem_cons.mp h with h | h
    · rw [h]; split <;> simp
    · simp [h]
theorem mxI_le : ∀ (xs : List Int) (x : Int), ∀ y ∈ x :: xs, y ≤ mxI x xs
  | [], x, y, h => by simp at h; subst h; exact Int.le_refl _
  | z :: zs, x, y, h => by
    have e : mxI x (z :: zs) = mxI (if x < z then z else x) zs := rfl
    have h1 := mxI_le zs (if x < z then z else x) _ (List.mem_cons_self ..)
    rw [e]
    rcases List.mem_cons.mp h with rfl | h
    · split at h1 <;> split <;> omega
    · rcases List.mem_cons.mp h with rfl | h
      · split at h1 <;> split <;> omega
      · exact mxI_le zs _ y (List.mem_cons_of_mem _ h)
@[simp] theorem o_min_ints (x : Int) (xs : List Int) : bestF PySem.W.minD [.list ((x :: xs).map .int)] = some (.int (mnI x xs)) := by
  have hI := ints_I (x :: xs)
  rw [List.map_cons] at hI ⊢
  rw [best_ok (alikeB_of hI isI_alike isI_nn) fun y hy => isI_d (hI y hy), minD_int]
@[simp] theorem o_max_ints (x : Int) (xs : List Int) : bestF PySem.W.maxD [.list ((x :: xs).map .int)] = some (.int (mxI x xs)) := by
  have hI := ints_I (x :: xs)
  rw [List.map_cons] at hI ⊢
  rw [best_ok (alikeB_of hI isI_alike isI_nn) fun y hy => isI_d (hI y hy), maxD_int]
/-- with a default -/
def mxK (d : PyData) : List Int → PyData
  | [] => d
  | x :: xs => .int (mxI x xs)
def mnK (d : PyData) : List Int → PyData
  | [] => d
  | x :: xs => .int (mnI x xs)
theorem o_maxK {d : PyData} (hd : d = .none ∨ ∃ i, d = .int i) (xs : List Int) : bestK PySem.W.maxD [.list (xs.map .int)] [d] = some (mxK d xs) := by
  cases xs with
  | nil => rcases hd with rfl | ⟨i, rfl⟩ <;> rfl
  | cons x xs =>
    have hI := ints_I (x :: xs)
    rw [List.map_cons] at hI ⊢
    rw [bestK_ok (alikeB_of hI isI_alike isI_nn) fun y hy => isI_d (hI y hy), maxD_int]
    rfl
theorem o_maxKT {d : PyData} (hd : d = .none ∨ ∃ i, d = .int i) (xs : List Int) : bestK PySem.W.maxD [.tuple (xs.map .int)] [d] = some (mxK d xs) := by
  cases xs with
  | nil => rcases hd with rfl | ⟨i, rfl⟩ <;> rfl
  | cons x xs =>
    have hI := ints_I (x :: xs)
    rw [List.map_cons] at hI ⊢
    rw [bestK_okT (alikeB_of hI isI_alike isI_nn) fun y hy => isI_d (hI y hy), maxD_int]
    rfl
theorem o_minK {d : PyData} (hd : d = .none ∨ ∃ i, d = .int i) (xs : List Int) : bestK PySem.W.minD [.list (xs.map .int)] [d] = some (mnK d xs) := by
  cases xs with
  | nil => rcases hd with rfl | ⟨i, rfl⟩ <;> rfl
  | cons x xs =>
    have hI := ints_I (x :: xs)
    rw [List.map_cons] at hI ⊢
    rw [bestK_ok (alikeB_of hI isI_alike isI_nn) fun y hy => isI_d (hI y hy), minD_int]
    rfl
/-- sorted of pairs of ints -/
theorem o_srt_pairs {b : Bool} (ps : List (Int × Int)) (hl : ps.length ≤ 1000000) : srtN b [.list (ps.map encP)] = some ((sortT b encP ps).map encP) := by
  rw [srt_ok (sortB_of (ints_P ps) isP_alike (.inl isP_ns)) (fun y hy => isP_d (ints_P ps y hy)) (by simpa using hl), sortD_map]
theorem o_srt_ints {b : Bool} (ns : List Int) (hl : ns.length ≤ 1000000) : srtN b [.list (ns.map .int)] = some ((sortT b .int ns).map .int) := by
  rw [srt_ok (sortB_of (ints_I ns) isI_alike (.inr isI_ns)) (fun y hy => isI_d (ints_I ns y hy)) (by simpa using hl), sortD_map]
theorem o_srt_intsT {b : Bool} (ns : List Int) (hl : ns.length ≤ 1000000) : srtN b [.tuple (ns.map .int)] = some ((sortT b .int ns).map .int) := by
  rw [srt_okT (sortB_of (ints_I ns) isI_alike (.inr isI_ns)) (fun y hy => isI_d (ints_I ns y hy)) (by simpa using hl), sortD_map]
theorem filter_no {α : Type} (l : List α) : (l.filter fun _ => false) = [] := List.filter_eq_nil_iff.mpr fun _ _ => Bool.false_ne_true
theorem looks_l1 {i : Nat} {st : Sto} {xs : List PyData} (h : st[i]? = some (.lst xs)) : looks [.r i] st = some [.list xs] := by
  unfold looks
  rw [look_l h]
  rfl
/-! ### lists of the store as sources -/
theorem srcW_dl (xs : List PyData) (st : Sto) : srcW (.d (.list xs)) st = .ok ⟨xs, []⟩ st := rfl
theorem srcW_dd (es : List (PyData × PyData)) (st : Sto) : srcW (.d (.dict es)) st = .ok ⟨es.map (·.1), []⟩ st := rfl
theorem srcW_dt (xs : List PyData) (st : Sto) : srcW (.d (.tuple xs)) st = .ok ⟨xs, []⟩ st := rfl
theorem srcW_l {i : Nat} {st : Sto} {xs : List PyData} (h : st[i]? = some (.lst xs)) : srcW (.r i) st = .ok ⟨xs, [(i, xs)]⟩ st := by
  unfold srcW seqW
  simp [h]
theorem lcL_mapL {g : Wv → En → Option En} {c : En → Sto → Rs Wv} {env : En} {st : Sto} {f : PyData → PyData} {lv : List (Nat × List PyData)} (hl : lvOk lv st) : ∀ (xs acc : List PyData), (∀ x ∈ xs, ∃ env1, g (.d x) env = some env1 ∧ c env1 st = .ok (.d (f x)) st) → lcL g tYs c lv env xs acc st = .ok (acc ++ xs.map f) st
  | [], acc, _ => by simp [lcL, hl]
  | x :: xs, acc, q => by
    obtain ⟨env1, e1, e2⟩ := q x (by simp)
    have ih := lcL_mapL (f := f) (g := g) (c := c) (env := env) (st := st) hl xs (acc ++ [f x]) fun y hy => q y (by simp [hy])
    simp [lcL, e1, e2, ih, hl]
theorem lcL_filterL {g : Wv → En → Option En} {t : En → Sto → Rs Bool} {c : En → Sto → Rs Wv} {env : En} {st : Sto} {p : PyData → Bool} {f : PyData → PyData} {lv : List (Nat × List PyData)} (hl : lvOk lv st) : ∀ (xs acc : List PyData), (∀ x ∈ xs, ∃ env1, g (.d x) env = some env1 ∧ t env1 st = .ok (p x) st ∧ (p x = true → c env1 st = .ok (.d (f x)) st)) →
    lcL g t c lv env xs acc st = .ok (acc ++ (xs.filter p).map f) st
  | [], acc, _ => by simp [lcL, hl]
  | x :: xs, acc, q => by
    obtain ⟨env1, e1, e2, e3⟩ := q x (by simp)
    cases hp : p x with
    | true =>
      have ih := lcL_filterL (p := p) (f := f) (g := g) (t := t) (c := c) (env := env) (st := st) hl xs (acc ++ [f x]) fun y hy => q y (by simp [hy])
      simp [lcL, e1, e2, hp, e3 hp, ih, hl]
    | false =>
      have ih := lcL_filterL (p := p) (f := f) (g := g) (t := t) (c := c) (env := env) (st := st) hl xs acc fun y hy => q y (by simp [hy])
      simp [lcL, e1, e2, hp, ih, hl]
/-- the second of a pair -/
def sndD : PyData → PyData
  | .tuple [_, y] => y
  | d => d
def fstD : PyData → PyData
  | .tuple [x, _] => x
  | d => d
theorem snd_P (ps : List (Int × Int)) : (ps.map encP).map sndD = (ps.map (·.2)).map .int := by rw [List.map_map, List.map_map]; rfl
theorem fst_P (ps : List (Int × Int)) : (ps.map encP).map fstD = (ps.map (·.1)).map .int := by rw [List.map_map, List.map_map]; rfl
/-! ### the same shown twice is the same -/
theorem ne_self {d : PyData} {s : Str} (h : reprF [d] = some (.str s)) : neD (.str s) (.str s) = some (.bool false) := by rw [o_ne_s]; simp
end

section
variable [Wtp] [Tbl]
/-! ### list(range(n)), tuple(range(n)) -/
def rgLW (tup : Bool) (w : Wv) (st : Sto) : Rs Wv := match w with
  | .d (.int n) => if n ≤ 1000000 ∧ -1000000 ≤ n then .ok (.d (if tup then .tuple (rangeD 0 n.toNat) else .list (rangeD 0 n.toNat))) st else .no
  | _ => .no
def eRgL (tup : Bool) (c : En → Sto → Rs Wv) : En → Sto → Rs Wv := fun env st => (c env st).bind (rgLW tup)
@[simp] theorem x_rgL (env : En) (st : Sto) (t : Bool) (c : En → Sto → Rs Wv) : eRgL t c env st = (c env st).bind (rgLW t) := rfl
theorem rgLW_ok {tup : Bool} {n : Int} {st : Sto} (h : 0 ≤ n) (h2 : n ≤ 1000000) : rgLW tup (.d (.int n)) st = .ok (.d (if tup then .tuple (rangeD 0 n.toNat) else .list (rangeD 0 n.toNat))) st := by
  show (if n ≤ 1000000 ∧ -1000000 ≤ n then Rs.ok (.d (if tup then .tuple (rangeD 0 n.toNat) else .list (rangeD 0 n.toNat))) st else Rs.no : Rs Wv) = _
  rw [if_pos ⟨h2, by omega⟩]
section
variable {M : Md} {X : Cx} {B : Tb} {k : Nat} {pins : List (Addr × Obj)} {σ : L2.St} {H : Hp} {s : Shared} {m : Mp} {env : En} {st : Sto} {W : WX} {a : Expr} {ca : En → Sto → Rs Wv} {p p2 pos pos2 : Pos}
theorem rgV_rp {K : Frg} {Z : Addr → Prop} (n : Int) : RpA K H Z (rgV 0 n) (rangeD 0 n.toNat) := by
  unfold rgV rangeD
  rw [Int.sub_zero]
  generalize n.toNat = j
  induction j with
  | zero => exact .nil
  | succ j ih =>
    rw [List.range_succ, List.map_append, List.map_append]
    exact ih.app (.cons (.int _) .nil)
theorem de_listRg (c : Cxt M X B k) (j j2 : Nat) (hg : B.gs[j]? = some ("list" : Str)) (hm : M.mg "list" = none) (hg2 : B.gs[j2]? = some ("range" : Str)) (hm2 : M.mg "range" = none) (ha : DE X a ca) (na : starEach [a] X.env = (false, eval a X.env) :: starEach [] X.env := by rfl)
    (na2 : starEach [.Call (.Name "range" p2) [a] [] pos2] X.env = (false, eval (.Call (.Name "range" p2) [a] [] pos2) X.env) :: starEach [] X.env := by rfl) : DE X (.Call (.Name "list" p) [.Call (.Name "range" p2) [a] [] pos2] [] pos) (eRgL false ca) := by
  refine ⟨fun W tk => PE.imp (pe_listRg c.calm (c.gl j _ hg) (by rw [c.mg]; exact hm) (prg_1 (c.gl j2 _ hg2) (by rw [c.mg]; exact hm2) (ha.pe W tk) na) na2) fun σ H Q ⟨m, env, st, S, R, hp⟩ => ?_⟩
  unfold eRgL at hp
  rw [Rs.post_bind] at hp
  refine ⟨m, env, st, S, R, Rs.post_mono hp (fun w st1 q v H1 m1 f1 S1 r1 => ?_) fun _ _ q => q⟩
  unfold rgLW at q
  split at q
  · rename_i n
    split at q
    · rename_i hn
      have r1 : Rp X.K H1 (Off m1 st1.length) v (.int n) := r1
      cases r1
      refine ⟨n, rfl, ⟨by omega, by omega, by omega, by omega, by omega⟩, fun z hz => ?_⟩
      have g := grow_upd (o := .lst (rgV 0 n)) hz
      exact q _ _ m1 (f1.trans (.same g)) (S1.grow g) (.lst (.inl ⟨upd_same, S1.fresh hz⟩) (rgV_rp n))
    · exact q.elim
  · exact q.elim
theorem de_tupRg (c : Cxt M X B k) (j j2 : Nat) (hg : B.gs[j]? = some ("tuple" : Str)) (hm : M.mg "tuple" = none) (hg2 : B.gs[j2]? = some ("range" : Str)) (hm2 : M.mg "range" = none) (ha : DE X a ca) (na : starEach [a] X.env = (false, eval a X.env) :: starEach [] X.env := by rfl)
    (na2 : starEach [.Call (.Name "range" p2) [a] [] pos2] X.env = (false, eval (.Call (.Name "range" p2) [a] [] pos2) X.env) :: starEach [] X.env := by rfl) : DE X (.Call (.Name "tuple" p) [.Call (.Name "range" p2) [a] [] pos2] [] pos) (eRgL true ca) := by
  refine ⟨fun W tk => PE.imp (pe_tupRg c.calm (c.gl j _ hg) (by rw [c.mg]; exact hm) (prg_1 (c.gl j2 _ hg2) (by rw [c.mg]; exact hm2) (ha.pe W tk) na) na2) fun σ H Q ⟨m, env, st, S, R, hp⟩ => ?_⟩
  unfold eRgL at hp
  rw [Rs.post_bind] at hp
  refine ⟨m, env, st, S, R, Rs.post_mono hp (fun w st1 q v H1 m1 f1 S1 r1 => ?_) fun _ _ q => q⟩
  unfold rgLW at q
  split at q
  · rename_i n
    split at q
    · rename_i hn
      have r1 : Rp X.K H1 (Off m1 st1.length) v (.int n) := r1
      cases r1
      refine ⟨n, rfl, ⟨by omega, by omega, by omega, by omega, by omega⟩, fun z hz => ?_⟩
      have g := grow_upd (o := .tup (rgV 0 n)) hz
      exact q _ _ m1 (f1.trans (.same g)) (S1.grow g) (.tup (.inl upd_same) (rgV_rp n))
    · exact q.elim
  · exact q.elim
end
/-! ### methods of lists that read -/
def isLd (st : Sto) (w : Wv) : Bool := match look st w with
  | some (.list _) => true
  | _ => false
@[simp] theorem isLd_d (xs : List PyData) (st : Sto) : isLd st (.d (.list xs)) = true := rfl
theorem isLd_r {i : Nat} {st : Sto} {xs : List PyData} (h : st[i]? = some (.lst xs)) : isLd st (.r i) = true := by unfold isLd; rw [look_l h]
def eMd (f : PyData → List PyData → Option PyData) (co : En → Sto → Rs Wv) (cs : En → Sto → Rs (List Wv)) : En → Sto → Rs Wv := fun env st => (co env st).bind fun w st1 => if isLd st1 w = true then (cs env st1).bind fun ws st2 => match look st2 w, looks ws st2 with
    | some d, some ds => ret1 (f d ds) st2
    | _, _ => .no
  else .no
@[simp] theorem x_md (env : En) (st : Sto) (f : PyData → List PyData → Option PyData) (co : En → Sto → Rs Wv) (cs : En → Sto → Rs (List Wv)) : eMd f co cs env st = ((co env st).bind fun w st1 => if isLd st1 w = true then (cs env st1).bind fun ws st2 => match look st2 w, looks ws st2 with
    | some d, some ds => ret1 (f d ds) st2
    | _, _ => .no
  else .no) := rfl
def rMd (K : Frg) (f : PyData → List PyData → Option PyData) : V → List V → Hp → VK → Prop := fun v vs H Q => ∃ Z d ds r, (∀ a, H a = none → Z a) ∧ RT K H Z v d ∧ RTs K H Z vs ds ∧ f d ds = some r ∧ rOut K H Z r Q
section
variable {M : Md} {X : Cx} {B : Tb} {k : Nat} {pins : List (Addr × Obj)} {σ : L2.St} {H : Hp} {s : Shared} {W : WX} {pos apos : Pos} {o e : Expr} {es : List Expr} {co : En → Sto → Rs Wv} {cs : En → Sto → Rs (List Wv)}
theorem te_md (f : PyData → List PyData → Option PyData) {Q : VK} (h : tE X W (eMd f co cs) σ H Q) : tBM X.K "list" (rMd X.K f) (tE X W co) (tA X W cs) σ H Q := by
  obtain ⟨m, env, st, S, R, hp⟩ := h
  unfold eMd at hp
  rw [Rs.post_bind] at hp
  refine ⟨m, env, st, S, R, Rs.post_mono hp (fun w st1 q1 v H1 m1 f1 S1 r1 => ?_) fun _ _ q => q⟩
  split at q1
  · rename_i hw
    rw [Rs.post_bind] at q1
    have ty : tyV X.K "list" v H1 := by
      unfold isLd at hw
      split at hw
      · rename_i xs e1
        obtain ⟨a, vs, rfl, h1, h2⟩ := (look_rt S1 r1 e1).lst
        exact .inl ⟨rfl, vs, h1.sq⟩
      · cases hw
    refine ⟨ty, m1, env, st1, S1, R.mv f1, Rs.post_mono q1 (fun ws st2 q2 vs H2 m2 f2 S2 r2 => ?_) fun _ _ z => okX.tr f1 z⟩
    split at q2
    · rename_i d ds e1 e2
      obtain ⟨r, e3, q⟩ := ret1_post q2
      exact ⟨_, d, ds, r, fun a => S2.fresh, look_rt S2 (r1.mv f2) e1, looks_rt S2 r2 e2, e3, okE.out (f1.trans f2) S2 q⟩
    · exact q2.elim
  · exact q1.elim
/-- l.count(x) -/
def cntD : PyData → List PyData → Option PyData
  | .list xs, [d] => if PyData.plainAll xs = true ∧ d.plain = true ∧ min (PyData.depthAll xs) d.depth ≤ 40 then some (.int ((xs.countP fun y => PyData.eqv y d : Nat))) else none
  | _, _ => none
theorem m_count (hr : L2H.RoomH k X.A) : MtR X "list.count" (rMd X.K cntD) := by
  intro pins s σ H x xs v us Q I rx rxs ⟨Z, d, ds, r, hz, hd, hds, hf, ho⟩
  have hu := room_eq hr (show 60 ≤ 60 by decide)
  unfold cntD at hf
  split at hf
  · rename_i ys y
    split at hf
    · rename_i hc
      cases hf
      obtain ⟨a, vs, rfl, h1, h2⟩ := hd.lst
      obtain ⟨z, rfl, h'⟩ := rts1 hds
      obtain ⟨u', rfl, rz'⟩ := vals1 rxs
      cases rx
      obtain ⟨its, rv, hl, _⟩ := I.list h1.sq
      obtain ⟨as, rd⟩ := RpA.reads I _ vs its h2 rv
      obtain ⟨bs, rb⟩ := Inv.rt I h' rz'
      exact PySem.SeqAt.count_list_data hl.isList (by simpa using rd) rb hc.1 hc.2.1 (by omega) ⟨.int _, H, I.tok _, ⟨_, rfl⟩, rout_here ho (.int _)⟩
    · cases hf
  · cases hf
theorem de_count (c : Cxt M X B k) (ho : DE X o co) (ha : DA X (e :: es) cs)
    (hbase : attributeBase o "count" X.env (eval o X.env) = eval o X.env := by rfl)
    (hfew : ((backTo pos (starEach (e :: es) X.env)).all (fun x => !x.1) && (backToKw pos (keywordEach [] X.env)).all (fun x => x.1.isSome)
      && decide ((e :: es).length + ([] : List Keyword).length + (if ([] : List Keyword).isEmpty then 0 else 1) < 30)) = true := by rfl)
    (hline : (apos.endLine == pos.line) = true := by rfl) (hs : starEach (e :: es) X.env = (false, eval e X.env) :: starEach es X.env := by rfl) (hplain : (backTo pos (starEach es X.env)).any (·.1) = false := by rfl) :
    DE X (.Call (.Attribute o "count" apos) (e :: es) [] pos) (eMd cntD co cs) :=
  ⟨fun W tk => PE.imp (pe_bm PySem.F.plainAttrs_list PySem.F.slot_list_count PySem.F.type_list_count (m_count c.roomH) (ho.pe W tk) (ha.pa W tk) hbase hfew hline hs hplain) fun σ H Q => te_md cntD⟩
end
end

section
variable [Wtp] [Tbl]
/-! ### data of a type -/
open PySem.W (Datum DatumOrd Tup minOf maxOf)
section
variable {α : Type} [DecidableEq α]
section
variable [Datum α]
theorem cmpOk_d (x y : α) (h : Datum.depth α ≤ 40) : cmpOk (Datum.toD x) (Datum.toD y) = true := by
  unfold cmpOk
  have := Datum.depth_le x
  simp only [Datum.plain, Bool.true_and, decide_eq_true_eq]
  exact Nat.le_trans (Nat.min_le_left _ _) (by omega)
theorem q_eq (x y : α) (h : Datum.depth α ≤ 40 := by decide) : eqD (Datum.toD x) (Datum.toD y) = some (.bool (decide (x = y))) := by
  unfold eqD
  rw [if_pos (cmpOk_d x y h), Datum.eqv]
theorem q_ne (x y : α) (h : Datum.depth α ≤ 40 := by decide) : neD (Datum.toD x) (Datum.toD y) = some (.bool (!decide (x = y))) := by
  unfold neD
  rw [if_pos (cmpOk_d x y h), Datum.eqv]
theorem inOk_d (x : α) (xs : List α) (h : Datum.depth α ≤ 40) : inOk (Datum.toD x) (xs.map Datum.toD) = true := by
  unfold inOk
  have := PySem.W.depthAll_map xs
  rw [Datum.plain, PySem.W.plainAll_map, Bool.true_and, Bool.true_and, decide_eq_true_eq]
  exact Nat.le_trans (Nat.min_le_left _ _) (by omega)
theorem q_in_l (x : α) (xs : List α) (h : Datum.depth α ≤ 40 := by decide) : inD (Datum.toD x) (.list (xs.map Datum.toD)) = some (.bool (decide (x ∈ xs))) := by
  unfold inD inB
  dsimp only
  rw [if_pos (inOk_d x xs h), PySem.W.any_datum]
  rfl
theorem q_in_t (x : α) (xs : List α) (h : Datum.depth α ≤ 40 := by decide) : inD (Datum.toD x) (.tuple (xs.map Datum.toD)) = some (.bool (decide (x ∈ xs))) := by
  unfold inD inB
  dsimp only
  rw [if_pos (inOk_d x xs h), PySem.W.any_datum]
  rfl
theorem q_ni_l (x : α) (xs : List α) (h : Datum.depth α ≤ 40 := by decide) : niD (Datum.toD x) (.list (xs.map Datum.toD)) = some (.bool (!decide (x ∈ xs))) := by
  unfold niD inB
  dsimp only
  rw [if_pos (inOk_d x xs h), PySem.W.any_datum]
  rfl
theorem q_ni_t (x : α) (xs : List α) (h : Datum.depth α ≤ 40 := by decide) : niD (Datum.toD x) (.tuple (xs.map Datum.toD)) = some (.bool (!decide (x ∈ xs))) := by
  unfold niD inB
  dsimp only
  rw [if_pos (inOk_d x xs h), PySem.W.any_datum]
  rfl
theorem q_count (x : α) (xs : List α) (h : Datum.depth α ≤ 40 := by decide) : cntD (.list (xs.map Datum.toD)) [Datum.toD x] = some (.int (xs.countP fun y => decide (y = x) : Nat)) := by
  unfold cntD
  dsimp only
  have := PySem.W.depthAll_map xs
  rw [if_pos ⟨PySem.W.plainAll_map xs, Datum.plain x, Nat.le_trans (Nat.min_le_left _ _) (by omega)⟩, PySem.W.count_datum]
end
section
variable [DatumOrd α]
theorem alikeB_d (xs : List α) : alikeB (xs.map Datum.toD) = true := alikeB_of (P := fun d => ∃ x : α, d = Datum.toD x) (fun d hd => by obtain ⟨x, _, rfl⟩ := List.mem_map.mp hd; exact ⟨x, rfl⟩) (fun _ _ ⟨x, hx⟩ ⟨y, hy⟩ => by rw [hx, hy]; exact DatumOrd.alike x y) fun _ ⟨x, hx⟩ => by rw [hx]; exact DatumOrd.notNone x
theorem dep_d (xs : List α) (h : Datum.depth α ≤ 40) : ∀ d ∈ xs.map Datum.toD, PyData.depth d ≤ 40 := fun d hd => by
  obtain ⟨x, _, rfl⟩ := List.mem_map.mp hd
  exact Nat.le_trans (Datum.depth_le x) h
theorem q_min (x : α) (xs : List α) (h : Datum.depth α ≤ 40 := by decide) : bestF PySem.W.minD [.list ((x :: xs).map Datum.toD)] = some (Datum.toD (minOf x xs)) := by
  have h1 := alikeB_d (x :: xs)
  have h2 := dep_d (x :: xs) h
  rw [List.map_cons] at h1 h2 ⊢
  rw [best_ok h1 h2, PySem.W.minD_map]
theorem q_max (x : α) (xs : List α) (h : Datum.depth α ≤ 40 := by decide) : bestF PySem.W.maxD [.list ((x :: xs).map Datum.toD)] = some (Datum.toD (maxOf x xs)) := by
  have h1 := alikeB_d (x :: xs)
  have h2 := dep_d (x :: xs) h
  rw [List.map_cons] at h1 h2 ⊢
  rw [best_ok h1 h2, PySem.W.maxD_map]
/-- the first of the least, of a list that may be empty -/
def leastOf : List α → Option α
  | [] => none
  | x :: xs => some (minOf x xs)
theorem q_least {xs : List α} {z : α} (e : leastOf xs = some z) (h : Datum.depth α ≤ 40 := by decide) : bestF PySem.W.minD [.list (xs.map Datum.toD)] = some (Datum.toD z) := by
  cases xs with
  | nil => cases e
  | cons x xs => cases e; exact q_min x xs h
theorem minOf_mem : ∀ (xs : List α) (x : α), minOf x xs ∈ x :: xs
  | [], x => by simp [minOf]
  | y :: ys, x => by
    have h := minOf_mem ys (if DatumOrd.lt y x = true then y else x)
    have e : minOf x (y :: ys) = minOf (if DatumOrd.lt y x = true then y else x) ys := rfl
    rw [e]
    rcases List.mem_cons.mp h with h | h
    · rw [h]; split <;> simp
    · simp [h]
theorem leastOf_mem {xs : List α} {z : α} (e : leastOf xs = some z) : z ∈ xs := by
  cases xs with
  | nil => cases e
  | cons x xs => cases e; exact minOf_mem xs x
theorem leastOf_some {xs : List α} (h : xs ≠ []) : ∃ z, leastOf xs = some z := by
  cases xs with
  | nil => exact absurd rfl h
  | cons x xs => exact ⟨_, rfl⟩
end
end
theorem q_srt_pairs {α β : Type} [DecidableEq α] [DatumOrd α] [DecidableEq β] [DatumOrd β] {b : Bool} (ps : List (α × β)) (hl : ps.length ≤ 1000000) (h : Datum.depth (α × β) ≤ 40 := by decide) : srtN b [.list (ps.map Datum.toD)] = some ((sortT b Datum.toD ps).map Datum.toD) := by
  rw [srt_ok (sortB_of (P := fun d => ∃ x : α × β, d = Datum.toD x) (fun d hd => by obtain ⟨x, _, rfl⟩ := List.mem_map.mp hd; exact ⟨x, rfl⟩) (fun _ _ ⟨x, hx⟩ ⟨y, hy⟩ => by rw [hx, hy]; exact DatumOrd.alike x y) (.inl fun _ ⟨x, hx⟩ => ⟨_, _, hx⟩)) (dep_d ps h) (by simpa using hl), sortD_map]
/-! ### ints in order -/
theorem pw_uniq : ∀ {l m : List Int}, l.Pairwise (· ≤ ·) → m.Pairwise (· ≤ ·) → l.Perm m → l = m
  | [], m, _, _, p => (List.Perm.eq_nil p.symm).symm
  | x :: l, [], _, _, p => absurd p.length_eq (by simp)
  | x :: l, y :: m, hl, hm, p => by
    have h1 : x ≤ y := by
      rcases List.mem_cons.mp (p.symm.mem_iff.mp (List.mem_cons_self ..) : y ∈ x :: l) with e | h
      · rw [e]; exact Int.le_refl _
      · exact (List.pairwise_cons.mp hl).1 y h
    have h2 : y ≤ x := by
      rcases List.mem_cons.mp (p.mem_iff.mp (List.mem_cons_self ..) : x ∈ y :: m) with e | h
      · rw [e]; exact Int.le_refl _
      · exact (List.pairwise_cons.mp hm).1 x h
    have e : x = y := Int.le_antisymm h1 h2
    subst e
    rw [pw_uniq (List.pairwise_cons.mp hl).2 (List.pairwise_cons.mp hm).2 p.cons_inv]
theorem sortI_pw (ns : List Int) : (sortT false .int ns).Pairwise (· ≤ ·) := by
  unfold sortT
  have e : PySem.W.dataLe false (fun i : Int => PyData.int i) = fun a b : Int => decide (a ≤ b) := PySem.W.dataLe_int fun i : Int => i
  rw [show PySem.W.dataLe false PyData.int = fun a b : Int => decide (a ≤ b) from e]
  have h := List.pairwise_mergeSort (le := fun a b : Int => decide (a ≤ b)) (fun a b c h1 h2 => by simp at *; omega) (fun a b => by simp; omega) ns
  exact h.imp fun {a b} q => by simpa using q
theorem sortI_eq {ns ms : List Int} (p : ns.Perm ms) (h : ms.Pairwise (· ≤ ·)) : sortT false .int ns = ms := pw_uniq (sortI_pw ns) h ((sortT_perm ..).trans p)
theorem perm_of_sub : ∀ {o l : List Int}, o.Nodup → (∀ x ∈ o, x ∈ l) → l.length ≤ o.length → o.Perm l
  | [], l, _, _, h => by
    have : l = [] := List.eq_nil_of_length_eq_zero (by simpa using h)
    rw [this]
  | x :: o, l, n, s, h => by
    have hx := s x (by simp)
    have n' := List.nodup_cons.mp n
    have p := perm_of_sub (o := o) (l := l.erase x) n'.2 (fun y hy => (List.mem_erase_of_ne (fun e : y = x => n'.1 (by rw [← e]; exact hy))).mpr (s y (by simp [hy]))) (by rw [List.length_erase_of_mem hx]; simp at h; omega)
    exact (p.cons x).trans (List.perm_cons_erase hx).symm
/-- 0 .. n - 1 -/
def upto (n : Nat) : List Int := (List.range n).map fun (i : Nat) => (i : Int)
theorem upto_data (n : Nat) : rangeD 0 n = (upto n).map .int := by
  unfold rangeD upto
  rw [List.map_map]
  refine List.map_congr_left fun i _ => ?_
  show PyData.int (0 + (i : Int)) = .int i
  rw [Int.zero_add]
theorem upto_len (n : Nat) : (upto n).length = n := by simp [upto]
theorem upto_mem {n : Nat} {x : Int} : x ∈ upto n ↔ 0 ≤ x ∧ x < n := by
  unfold upto
  rw [List.mem_map]
  constructor
  · rintro ⟨i, hi, rfl⟩; rw [List.mem_range] at hi; omega
  · rintro ⟨h1, h2⟩; exact ⟨x.toNat, by rw [List.mem_range]; omega, by omega⟩
theorem upto_pw (n : Nat) : (upto n).Pairwise (· ≤ ·) := by
  unfold upto
  rw [List.pairwise_map]
  exact (List.pairwise_lt_range (n := n)).imp fun {a b} h => by omega
/-! ### a list, wherever -/
def LsIn (st : Sto) (w : Wv) (xs : List PyData) : Prop := w = .d (.list xs) ∨ ∃ i, w = .r i ∧ st[i]? = some (.lst xs)
section
variable {st : Sto} {w : Wv} {xs : List PyData}
theorem LsIn.src (h : LsIn st w xs) : ∃ lv, srcW w st = .ok ⟨xs, lv⟩ st ∧ lvOk lv st ∧ ∀ st', (∀ i, i < st.length → st'[i]? = st[i]?) → lvOk lv st' := by
  rcases h with rfl | ⟨i, rfl, e⟩
  · exact ⟨[], rfl, by simp, fun _ _ => by simp⟩
  · exact ⟨_, srcW_l e, by rw [lvOk_one]; exact e, fun st' q => by rw [lvOk_one, q i (List.getElem?_eq_some_iff.mp e).1]; exact e⟩
theorem LsIn.keep (h : LsIn st w xs) {st' : Sto} (q : ∀ i, i < st.length → st'[i]? = st[i]?) : LsIn st' w xs := by
  rcases h with rfl | ⟨i, rfl, e⟩
  · exact .inl rfl
  · exact .inr ⟨i, rfl, by rw [q i (List.getElem?_eq_some_iff.mp e).1]; exact e⟩
theorem LsIn.app (h : LsIn st w xs) (l : Sto) : LsIn (st ++ l) w xs := h.keep fun i hi => List.getElem?_append_left hi
theorem LsIn.look (h : LsIn st w xs) : PV.look st w = some (.list xs) := by
  rcases h with rfl | ⟨i, rfl, e⟩
  · rfl
  · exact look_l e
theorem LsIn.looks (h : LsIn st w xs) : PV.looks [w] st = some [.list xs] := by
  unfold PV.looks
  rw [h.look]
  rfl
end
theorem extW_l {i : Nat} {st : Sto} {xs ys : List PyData} (h : st[i]? = some (.lst xs)) (hl : xs.length + ys.length ≤ 1000000) : extW (.r i) [.d (.list ys)] st = .ok (.d .none) (st.set i (.lst (xs ++ ys))) := by
  unfold extW
  simp [h, hl]
/-! ### x is True -/
def isB (k : Bool) : PyData → Bool
  | .bool j => j == k
  | _ => false
def isBD (a b : PyData) : Option PyData := match b with
  | .bool k => some (.bool (isB k a))
  | _ => none
def ntBD (a b : PyData) : Option PyData := match b with
  | .bool k => some (.bool (!isB k a))
  | _ => none
@[simp] theorem o_isB (j k : Bool) : isBD (.bool j) (.bool k) = some (.bool (j == k)) := rfl
@[simp] theorem o_ntB (j k : Bool) : ntBD (.bool j) (.bool k) = some (.bool (!(j == k))) := rfl
section
variable {X : Cx}
theorem isBl_v {K : Frg} {H : Hp} {Z : Addr → Prop} {x : V} {d : PyData} {k : Bool} (h : RT K H Z x d) : decide (x = .bl k) = isB k d := by
  cases d with
  | none => rw [h.non]; rfl
  | bool b => rw [h.bl]; cases b <;> cases k <;> rfl
  | int i => rw [h.int]; rfl
  | str x => rw [h.str]; rfl
  | list xs => obtain ⟨a, vs, rfl, _⟩ := h.lst; rfl
  | tuple xs => obtain ⟨a, vs, rfl, _⟩ := h.tup; rfl
  | dict xs => obtain ⟨a, rfl, _⟩ := h.dic; rfl
theorem rel_bl {x : V} {k : Bool} (r : RelV x (.bool k)) : x = .bl k := by
  cases x with
  | bl b => cases (show Value.bool k = Value.bool b from r); rfl
  | non => exact absurd (show Value.bool k = Value.none from r) (fun z => nomatch z)
  | int i => obtain ⟨t, e⟩ := r; cases e
  | str i => obtain ⟨t, e⟩ := r; cases e
  | byt i => exact absurd r (fun z => by obtain ⟨_, e⟩ := z; cases e)
  | flt i => exact absurd r (fun z => by obtain ⟨_, e⟩ := z; cases e)
  | ref a => exact absurd (show Value.bool k = Value.ref a from r) (fun z => nomatch z)
  | ty n => exact absurd (show Value.bool k = Value.type n from r) (fun z => nomatch z)
theorem o_isBo : OpR X (compareOp .Is) (rD X.K isBD) := by
  intro pins s σ H x y v u Q I rx ry ⟨Z, d, e, r, hz, hd, he, hf, ho⟩
  unfold isBD at hf
  split at hf
  · rename_i k
    cases hf
    have hy := he.bl
    subst hy
    cases (show u = Value.bool k from ry)
    rw [← isBl_v (k := k) hd] at ho
    by_cases q : v = Value.bool k
    · subst q
      have := rel_bl rx
      subst this
      exact wpAny_is_self rfl ⟨.bl true, H, I, rfl, by simpa using rout_here ho (.bl _)⟩
    · have q2 : ¬ x = .bl k := fun z => q (by subst z; exact rx)
      have hp : PySem.plainIs v (.bool k) = true := by
        cases x <;> first
          | (cases rx; rfl)
          | (obtain ⟨t, rfl⟩ := rx; rfl)
      exact wpAny_is_other hp q ⟨.bl false, H, I, rfl, by simpa [q2] using rout_here ho (.bl _)⟩
  · cases hf
theorem o_ntBo : OpR X (compareOp .IsNot) (rD X.K ntBD) := by
  intro pins s σ H x y v u Q I rx ry ⟨Z, d, e, r, hz, hd, he, hf, ho⟩
  unfold ntBD at hf
  split at hf
  · rename_i k
    cases hf
    have hy := he.bl
    subst hy
    cases (show u = Value.bool k from ry)
    rw [← isBl_v (k := k) hd] at ho
    by_cases q : v = Value.bool k
    · subst q
      have := rel_bl rx
      subst this
      exact wpAny_isNot_self rfl ⟨.bl false, H, I, rfl, by simpa using rout_here ho (.bl _)⟩
    · have q2 : ¬ x = .bl k := fun z => q (by subst z; exact rx)
      have hp : PySem.plainIs v (.bool k) = true := by
        cases x <;> first
          | (cases rx; rfl)
          | (obtain ⟨t, rfl⟩ := rx; rfl)
      exact wpAny_isNot_other hp q ⟨.bl true, H, I, rfl, by simpa [q2] using rout_here ho (.bl _)⟩
  · cases hf
end
end

section
variable [Wtp] [Tbl]
/-! ## dicts of the store that are walked: pinned from there on -/
def frzV (w : Wv) (st1 : Sto) : Rs Wv := match w with
  | .r i => match st1[i]? with
    | some (.dct es) => .ok (.d (.dict es)) (st1.set i (.lkd es))
    | some (.dtt es) => .ok (.d (.dict es)) (st1.set i (.lkd es))
    | some (.lkd es) => .ok (.d (.dict es)) st1
    | some (.lst xs) => .ok (.d (.list xs)) (st1.set i (.lkl xs))
    | some (.lkl xs) => .ok (.d (.list xs)) st1
    | _ => .ok (.r i) st1
  | w => .ok w st1
def eFrz (c : En → Sto → Rs Wv) : En → Sto → Rs Wv := fun env st => (c env st).bind frzV
@[simp] theorem x_frz (env : En) (st : Sto) (c : En → Sto → Rs Wv) : eFrz c env st = (c env st).bind frzV := rfl
@[simp] theorem frzV_d (x : PyData) (st : Sto) : frzV (.d x) st = .ok (.d x) st := rfl
theorem frzV_k {i : Nat} {st : Sto} {es : List (PyData × PyData)} (h : st[i]? = some (.dct es)) : frzV (.r i) st = .ok (.d (.dict es)) (st.set i (.lkd es)) := by unfold frzV; simp [h]
theorem frzV_t {i : Nat} {st : Sto} {es : List (PyData × PyData)} (h : st[i]? = some (.dtt es)) : frzV (.r i) st = .ok (.d (.dict es)) (st.set i (.lkd es)) := by unfold frzV; simp [h]
theorem frzV_f {i : Nat} {st : Sto} {es : List (PyData × PyData)} (h : st[i]? = some (.lkd es)) : frzV (.r i) st = .ok (.d (.dict es)) st := by unfold frzV; simp [h]
theorem frzV_l {i : Nat} {st : Sto} {xs : List PyData} (h : st[i]? = some (.lst xs)) : frzV (.r i) st = .ok (.d (.list xs)) (st.set i (.lkl xs)) := by unfold frzV; simp [h]
theorem frzV_ll {i : Nat} {st : Sto} {xs : List PyData} (h : st[i]? = some (.lkl xs)) : frzV (.r i) st = .ok (.d (.list xs)) st := by unfold frzV; simp [h]
section
variable {M : Md} {X : Cx} {B : Tb} {k : Nat} {pins : List (Addr × Obj)} {σ : L2.St} {H : Hp} {s : Shared} {m : Mp} {env : En} {st : Sto} {W : WX} {pos apos p5 : Pos} {o e f : Expr} {co ce cf : En → Sto → Rs Wv}
theorem pe_freezeC {e : Expr} {t : TE} (h : PE X e t) : PE X e (fun σ H Q => t σ H fun v H1 => Q v H1 ∨ (∃ a u, v = .ref a ∧ H1 a = some u ∧ ((∃ ks, u = .dK ks) ∨ (∃ ks, u = .dT ks) ∨ ∃ xs, u = .lst xs) ∧ ∀ o, Q v (upd H1 a (.frz o u)))) := ⟨fun pins s σ H Q I q =>
  thn (h.run pins s σ H _ I q) fun u s1 ⟨v, H1, I1, rv, q⟩ => by
    rcases q with q | ⟨a, w, ev, ha, hw, q1⟩
    · exact ⟨v, _, I1, rv, q⟩
    · rcases hw with hw | hw | ⟨xs, rfl⟩
      · obtain ⟨o, J⟩ := Inv.freeze I1 ha (.inl hw)
        exact ⟨v, _, J, rv, q1 o⟩
      · obtain ⟨o, J⟩ := Inv.freeze I1 ha (.inr hw)
        exact ⟨v, _, J, rv, q1 o⟩
      · obtain ⟨o, J⟩ := Inv.freezeL I1 ha
        exact ⟨v, _, J, rv, q1 o⟩⟩
theorem de_frz (h : DE X o co) : DE X o (eFrz co) := by
  refine ⟨fun W tk => PE.imp (pe_freezeC (h.pe W tk)) fun σ H Q ⟨m, env, st, S, R, hp⟩ => ?_⟩
  unfold eFrz at hp
  rw [Rs.post_bind] at hp
  refine ⟨m, env, st, S, R, Rs.post_mono hp (fun w st1 q v H1 m1 f1 S1 r1 => ?_) fun _ _ q => q⟩
  have plain : ∀ w', (Rs.ok w' st1 : Rs Wv).post (okE X m st.length H Q) (okX X W m st.length H σ) → RW X.K H1 m1 st1.length v w' → Q v H1 := fun w' q r => q v H1 m1 f1 S1 r
  cases w with
  | d x => exact .inl (plain _ q r1)
  | x a c d => exact .inl (plain _ q r1)
  | r i =>
    unfold frzV at q
    dsimp only at q
    cases e1 : st1[i]? with
    | none => rw [e1] at q; exact .inl (plain _ q r1)
    | some ob =>
      have hi : i < st1.length := (List.getElem?_eq_some_iff.mp e1).1
      rw [e1] at q
      cases ob with
      | lkl xs =>
        refine .inl (plain (.d (.list xs)) q ?_)
        show Rp X.K H1 (Off m1 st1.length) v (.list xs)
        rw [r1.2]
        exact FzL.rp (S1.ob i _ e1)
      | lst xs =>
        obtain ⟨ks, h1, h2⟩ := S1.ob i _ e1
        have f2 : ∀ o, Fol m1 st1.length H1 m1 st1.length (upd H1 (m1.ix i) (.frz o (.lst ks))) := fun o => .wr hi h1 (.inl ⟨_, rfl⟩) (by exact fun _ z => nomatch z)
        have hl : (st1.set i (Ob.lkl xs)).length = st1.length := List.length_set
        refine .inr ⟨_, _, r1.2, h1, .inr (.inr ⟨ks, rfl⟩), fun o => ?_⟩
        have fz : FzL X.K (upd H1 (m1.ix i) (.frz o (.lst ks))) (Off m1 st1.length) (m1.ix i) xs := ⟨o, ks, upd_same, h2.mv (f2 o).kp⟩
        refine q v _ m1 (by rw [hl]; exact f1.trans (f2 o)) (S1.wr hi h1 (.inl ⟨_, rfl⟩) fz (by exact fun _ z => nomatch z)) ?_
        rw [hl, r1.2]
        exact fz.rp
      | lkd es =>
        refine .inl (plain (.d (.dict es)) q ?_)
        show Rp X.K H1 (Off m1 st1.length) v (.dict es)
        rw [r1.2]
        exact S1.ob i _ e1
      | dct es =>
        obtain ⟨ks, h1, h2⟩ := S1.ob i _ e1
        have f2 : ∀ o, Fol m1 st1.length H1 m1 st1.length (upd H1 (m1.ix i) (.frz o (.dK ks))) := fun o => .wr hi h1 (.inr (.inl ⟨_, rfl⟩)) (by exact fun _ z => nomatch z)
        have hl : (st1.set i (Ob.lkd es)).length = st1.length := List.length_set
        refine .inr ⟨_, _, r1.2, h1, .inl ⟨ks, rfl⟩, fun o => ?_⟩
        have rp : Rp X.K (upd H1 (m1.ix i) (.frz o (.dK ks))) (Off m1 st1.length) (.ref (m1.ix i)) (.dict es) := .dic upd_same (RpK.kp (f2 o).kp _ _ h2)
        refine q v _ m1 (by rw [hl]; exact f1.trans (f2 o)) (S1.wr hi h1 (.inr (.inl ⟨_, rfl⟩)) rp (by exact fun _ z => nomatch z)) ?_
        rw [hl, r1.2]
        exact rp
      | dtt es =>
        obtain ⟨ks, h1, h2⟩ := S1.ob i _ e1
        have f2 : ∀ o, Fol m1 st1.length H1 m1 st1.length (upd H1 (m1.ix i) (.frz o (.dT ks))) := fun o => .wr hi h1 (.inr (.inr ⟨_, rfl⟩)) (by exact fun _ z => nomatch z)
        have hl : (st1.set i (Ob.lkd es)).length = st1.length := List.length_set
        refine .inr ⟨_, _, r1.2, h1, .inr (.inl ⟨ks, rfl⟩), fun o => ?_⟩
        have rp : Rp X.K (upd H1 (m1.ix i) (.frz o (.dT ks))) (Off m1 st1.length) (.ref (m1.ix i)) (.dict es) := .dit upd_same (RpT.kp (f2 o).kp _ _ h2)
        refine q v _ m1 (by rw [hl]; exact f1.trans (f2 o)) (S1.wr hi h1 (.inr (.inr ⟨_, rfl⟩)) rp (by exact fun _ z => nomatch z)) ?_
        rw [hl, r1.2]
        exact rp
/-! ## d.get(k), d.get(k, x) -/
/-- what stands at a key -/
def getO (d c : PyData) : Option (Option PyData) := match d with
  | .dict es => match keyD c with
    | some q => if kindK es = true then some (dLook es q) else none
    | none => match tkD c with
      | some q => if kindT es = true then some (dLookT es q) else none
      | none => none
  | _ => none
def isDk (st : Sto) (w : Wv) : Bool := match look st w with
  | some (.dict _) => true
  | _ => false
@[simp] theorem isDk_d (es : List (PyData × PyData)) (st : Sto) : isDk st (.d (.dict es)) = true := rfl
theorem isDk_l {i : Nat} {st : Sto} {es : List (PyData × PyData)} (h : look st (.r i) = some (.dict es)) : isDk st (.r i) = true := by unfold isDk; rw [h]
def eGet1 (co ce : En → Sto → Rs Wv) : En → Sto → Rs Wv := fun env st => (co env st).bind fun w st1 => if isDk st1 w = true then (ce env st1).bind fun j st2 => look1 w st2 fun d => look1 j st2 fun c => ret1 ((getO d c).map fun o => o.getD .none) st2 else .no
def eGet2 (co ce cf : En → Sto → Rs Wv) : En → Sto → Rs Wv := fun env st => (co env st).bind fun w st1 => if isDk st1 w = true then (ce env st1).bind fun j st2 => (cf env st2).bind fun y st3 => look1 w st3 fun d => look1 j st3 fun c => (match y with | .d z => ret1 ((getO d c).map fun o => o.getD z) st3 | _ => .no) else .no
@[simp] theorem x_get1 (env : En) (st : Sto) (co ce : En → Sto → Rs Wv) : eGet1 co ce env st = ((co env st).bind fun w st1 => if isDk st1 w = true then (ce env st1).bind fun j st2 => look1 w st2 fun d => look1 j st2 fun c => ret1 ((getO d c).map fun o => o.getD .none) st2 else .no) := rfl
@[simp] theorem x_get2 (env : En) (st : Sto) (co ce cf : En → Sto → Rs Wv) : eGet2 co ce cf env st = ((co env st).bind fun w st1 => if isDk st1 w = true then (ce env st1).bind fun j st2 => (cf env st2).bind fun y st3 => look1 w st3 fun d => look1 j st3 fun c => (match y with | .d z => ret1 ((getO d c).map fun o => o.getD z) st3 | _ => .no) else .no) := rfl
theorem DkT.isD {K : Frg} {Z : Addr → Prop} {a : Addr} {es : List (PyData × PyData)} (h : DkT K H Z a es) : L2.IsD H a := by
  rcases h with ⟨ks, h1, _⟩ | ⟨ks, h1, _⟩
  · exact .inl ⟨_, h1⟩
  · exact .inr ⟨_, h1⟩
theorem g_get1 {A : Around} {E : Value → Shared → Prop} {Z : Addr → Prop} {a : Addr} {es : List (PyData × PyData)} {c : PyData} {y : V} {u : Value} {r : Option PyData} {Q : Value → Shared → Prop} (hu : A.units + 1 < cLine) (I : Inv X pins σ H s) (hd : DkT X.K H Z a es) (hc : RT X.K H Z y c) (ry : RelV y u) (hg : getO (.dict es) c = some r)
    (h : ∀ v w' s', Inv X pins σ H s' → RelV v w' → Rp X.K H Z v (r.getD .none) → Q w' s') : wpAny (model X.prog X.w) A (call (.builtin "dict.get") [.ref a, u]) Q E s := by
  unfold getO at hg
  dsimp only at hg
  split at hg
  · rename_i kk hk
    split at hg
    · rename_i kd
      cases hg
      have e1 := keyD_v hc hk
      subst e1
      obtain ⟨hsm, kvs, vs, h2, rel, dd⟩ := dkT_k I hd kd
      refine call_meetsIn PySem.F.slot_dict_get dd.typeIs PySem.F.entry_dict_get (PySem.F.args_dict_get_2 _ _) (meets_dict_get (mixKind X.prog X.w) a (kV_is ry) hsm) ⟨_, dd.mapOf, ?_⟩
      rcases dLook_rp kk h2 with ⟨v, d, e1, e2, rp⟩ | ⟨e1, e2⟩
      · exact h v _ _ (I.tok _) (by have := RelO.getD (rel.val kk) (d := .non) (d' := .none) rfl; rw [e1] at this; exact this) (by rw [e2]; exact rp)
      · exact h .non _ _ (I.tok _) (by have := RelO.getD (rel.val kk) (d := .non) (d' := .none) rfl; rw [e1] at this; exact this) (by rw [e2]; exact .non)
    · cases hg
  · split at hg
    · rename_i ks hk
      split at hg
      · rename_i kd
        cases hg
        obtain ⟨b, rfl, h3⟩ := tkD_v hc hk
        cases ry
        obtain ⟨hsm, kvs, xs, h2, rel, dd⟩ := dkT_t I hd kd
        refine call_meetsIn PySem.F.slot_dict_get dd.typeIs PySem.F.entry_dict_get (PySem.F.args_dict_get_2 _ _) (meetsH_dict_get (tupleKind (mixKind X.prog X.w)) a b hsm) ⟨tupleKind_room_in1 hu, ks, xs, key_ofS I h3, dd, ?_⟩
        rcases dLookT_rp ks h2 with ⟨v, d, e1, e2, rp⟩ | ⟨e1, e2⟩
        · exact h v _ _ (I.tok _) (by have := RelO.getD (rel.val ks) (d := .non) (d' := .none) rfl; rw [e1] at this; exact this) (by rw [e2]; exact rp)
        · exact h .non _ _ (I.tok _) (by have := RelO.getD (rel.val ks) (d := .non) (d' := .none) rfl; rw [e1] at this; exact this) (by rw [e2]; exact .non)
      · cases hg
    · cases hg
theorem g_get2 {A : Around} {E : Value → Shared → Prop} {Z : Addr → Prop} {a : Addr} {es : List (PyData × PyData)} {c z : PyData} {y x : V} {u r1 : Value} {r : Option PyData} {Q : Value → Shared → Prop} (hu : A.units + 1 < cLine) (I : Inv X pins σ H s) (hd : DkT X.K H Z a es) (hc : RT X.K H Z y c) (ry : RelV y u) (hx : Rp X.K H Z x z) (rx : RelV x r1) (hg : getO (.dict es) c = some r)
    (h : ∀ v w' s', Inv X pins σ H s' → RelV v w' → Rp X.K H Z v (r.getD z) → Q w' s') : wpAny (model X.prog X.w) A (call (.builtin "dict.get") [.ref a, u, r1]) Q E s := by
  unfold getO at hg
  dsimp only at hg
  split at hg
  · rename_i kk hk
    split at hg
    · rename_i kd
      cases hg
      have e1 := keyD_v hc hk
      subst e1
      obtain ⟨hsm, kvs, vs, h2, rel, dd⟩ := dkT_k I hd kd
      refine call_meetsIn PySem.F.slot_dict_get dd.typeIs PySem.F.entry_dict_get (PySem.F.args_dict_get_3 _ _ _) (meets_dict_get_default (mixKind X.prog X.w) a (kV_is ry) hsm r1) ⟨_, dd.mapOf, ?_⟩
      rcases dLook_rp kk h2 with ⟨v, d, e1, e2, rp⟩ | ⟨e1, e2⟩
      · exact h v _ _ (I.tok _) (by have := (rel.val kk).getD rx; rw [e1] at this; exact this) (by rw [e2]; exact rp)
      · exact h x _ _ (I.tok _) (by have := (rel.val kk).getD rx; rw [e1] at this; exact this) (by rw [e2]; exact hx)
    · cases hg
  · split at hg
    · rename_i ks hk
      split at hg
      · rename_i kd
        cases hg
        obtain ⟨b, rfl, h3⟩ := tkD_v hc hk
        cases ry
        obtain ⟨hsm, kvs, xs, h2, rel, dd⟩ := dkT_t I hd kd
        refine call_meetsIn PySem.F.slot_dict_get dd.typeIs PySem.F.entry_dict_get (PySem.F.args_dict_get_3 _ _ _) (meetsH_dict_get_default (tupleKind (mixKind X.prog X.w)) a b hsm r1) ⟨tupleKind_room_in1 hu, ks, xs, key_ofS I h3, dd, ?_⟩
        rcases dLookT_rp ks h2 with ⟨v, d, e1, e2, rp⟩ | ⟨e1, e2⟩
        · exact h v _ _ (I.tok _) (by have := (rel.val ks).getD rx; rw [e1] at this; exact this) (by rw [e2]; exact rp)
        · exact h x _ _ (I.tok _) (by have := (rel.val ks).getD rx; rw [e1] at this; exact this) (by rw [e2]; exact hx)
      · cases hg
    · cases hg
theorem isDk_at (S : Sim X.K H m st) {v : V} {w : Wv} (r : RW X.K H m st.length v w) (h : isDk st w = true) : ∃ a, v = .ref a ∧ L2.IsD H a := by
  unfold isDk at h
  split at h
  · rename_i es e1
    obtain ⟨a, rfl, h1⟩ := (look_rt S r e1).dic
    exact ⟨a, rfl, h1.isD⟩
  · cases h
theorem de_get1 (c : Cxt M X B k) (ho : DE X o co) (he : DE X e ce) (hbase : attributeBase o "get" X.env (eval o X.env) = eval o X.env := by rfl)
    (hfew : ((backTo pos (starEach [e] X.env)).all (fun x => !x.1) && (backToKw pos (keywordEach [] X.env)).all (fun x => x.1.isSome)
      && decide (([e] : List Expr).length + ([] : List Keyword).length + (if ([] : List Keyword).isEmpty then 0 else 1) < 30)) = true := by rfl)
    (hline : (apos.endLine == pos.line) = true := by rfl) (htrees : backTo pos (starEach [e] X.env) = [(false, eval e X.env)] := by rfl) : DE X (.Call (.Attribute o "get" apos) [e] [] pos) (eGet1 co ce) := by
  refine .mk' fun W pins σ H s m env st Q tk I S R hp => ?_
  unfold eGet1 at hp
  rw [Rs.post_bind] at hp
  refine wpAny_Call_method hbase hfew hline PySem.F.plainAttrs_dict PySem.F.slot_dict_get PySem.F.type_dict_get (ho.go tk I S R (Rs.post_mono hp (fun w st1 q v H1 m1 u s1 I1 rv f1 S1 r1 => ?_) fun _ _ q => q))
  split at q
  · rename_i hw
    obtain ⟨a, rfl, d⟩ := isDk_at S1 r1 hw
    obtain rfl : u = Value.ref a := rv
    obtain ⟨t1, t2, _⟩ := isD_at I1 d
    refine ⟨t1, t2, ?_⟩
    rw [htrees]
    rw [Rs.post_bind] at q
    refine Calls.callWith_builtin rfl (Calls.evalArgs_plain (Calls.spliced_cons (he.go tk I1 S1 (R.mv f1) (Rs.post_mono q (fun j st2 q v2 H2 m2 u2 s2 I2 rv2 f2 S2 r2 => Calls.spliced_nil ?_) fun _ _ z => okX.tr f1 z))))
    obtain ⟨dd, e1, q⟩ := look1_post q
    obtain ⟨cc, e2, q⟩ := look1_post q
    obtain ⟨z, e3, q9⟩ := ret1_post q
    obtain ⟨r, e4, e5⟩ := Option.map_eq_some_iff.mp e3
    have hd : RT X.K H2 (Off m2 st2.length) (.ref a) dd := look_rt S2 (r1.mv f2) e1
    cases dd with
    | dict es =>
      obtain ⟨a', ea, hd⟩ := hd.dic
      cases ea
      exact g_get1 (room_eq c.roomH (show 1 ≤ 60 by decide)) I2 hd (look_rt S2 r2 e2) rv2 e4 fun v3 w3 s3 I3 rv3 rp => q9 v3 H2 m2 w3 s3 I3 rv3 (f1.trans f2) S2 (by rw [← e5]; exact rp)
    | _ => cases e4
  · exact q.elim
theorem de_get2 (c : Cxt M X B k) (ho : DE X o co) (he : DE X e ce) (hf : DE X f cf) (hbase : attributeBase o "get" X.env (eval o X.env) = eval o X.env := by rfl)
    (hfew : ((backTo pos (starEach [e, f] X.env)).all (fun x => !x.1) && (backToKw pos (keywordEach [] X.env)).all (fun x => x.1.isSome)
      && decide (([e, f] : List Expr).length + ([] : List Keyword).length + (if ([] : List Keyword).isEmpty then 0 else 1) < 30)) = true := by rfl)
    (hline : (apos.endLine == pos.line) = true := by rfl) (htrees : backTo pos (starEach [e, f] X.env) = [(false, eval e X.env), (false, eval f X.env)] := by rfl) : DE X (.Call (.Attribute o "get" apos) [e, f] [] pos) (eGet2 co ce cf) := by
  refine .mk' fun W pins σ H s m env st Q tk I S R hp => ?_
  unfold eGet2 at hp
  rw [Rs.post_bind] at hp
  refine wpAny_Call_method hbase hfew hline PySem.F.plainAttrs_dict PySem.F.slot_dict_get PySem.F.type_dict_get (ho.go tk I S R (Rs.post_mono hp (fun w st1 q v H1 m1 u s1 I1 rv f1 S1 r1 => ?_) fun _ _ q => q))
  split at q
  · rename_i hw
    obtain ⟨a, rfl, d⟩ := isDk_at S1 r1 hw
    obtain rfl : u = Value.ref a := rv
    obtain ⟨t1, t2, _⟩ := isD_at I1 d
    refine ⟨t1, t2, ?_⟩
    rw [htrees]
    rw [Rs.post_bind] at q
    refine Calls.callWith_builtin rfl (Calls.evalArgs_plain (Calls.spliced_cons (he.go tk I1 S1 (R.mv f1) (Rs.post_mono q (fun j st2 q v2 H2 m2 u2 s2 I2 rv2 f2 S2 r2 => ?_) fun _ _ z => okX.tr f1 z))))
    rw [Rs.post_bind] at q
    refine Calls.spliced_cons (hf.go tk I2 S2 ((R.mv f1).mv f2) (Rs.post_mono q (fun y st3 q v3 H3 m3 u3 s3 I3 rv3 f3 S3 r3 => Calls.spliced_nil ?_) fun _ _ z => okX.tr (f1.trans f2) z))
    obtain ⟨dd, e1, q⟩ := look1_post q
    obtain ⟨cc, e2, q⟩ := look1_post q
    cases y with
    | d z0 =>
      obtain ⟨z, e3, q9⟩ := ret1_post q
      obtain ⟨r, e4, e5⟩ := Option.map_eq_some_iff.mp e3
      have hd : RT X.K H3 (Off m3 st3.length) (.ref a) dd := look_rt S3 ((r1.mv f2).mv f3) e1
      cases dd with
      | dict es =>
        obtain ⟨a', ea, hd⟩ := hd.dic
        cases ea
        exact g_get2 (room_eq c.roomH (show 1 ≤ 60 by decide)) I3 hd (look_rt S3 (r2.mv f3) e2) rv2 r3 rv3 e4 fun v4 w4 s4 I4 rv4 rp => q9 v4 H3 m3 w4 s4 I4 rv4 ((f1.trans f2).trans f3) S3 (by rw [← e5]; exact rp)
      | _ => cases e4
    | r i => exact q.elim
    | x a c d => exact q.elim
  · exact q.elim
/-! ## str of an int, dict of a dict -/
def strF : List PyData → Option PyData
  | [.int i] => if i.natAbs.log2 < 1920 then some (.str (toString i)) else none
  | [.str z] => some (.str z)
  | _ => none
theorem c_str : CallR X (.type "str") (rN X.K strF) := by
  intro pins s σ H xs us Q I r ⟨Z, ds, e, hz, hd, hf, ho⟩
  unfold strF at hf
  split at hf
  · split at hf
    · rename_i hl
      cases hf
      obtain ⟨v, rfl, h⟩ := rts1 hd
      rw [h.int] at r
      exact call_str_int pins s σ H _ us Q I r ⟨_, rfl, hl, rout_here ho (.str _)⟩
    · cases hf
  · cases hf
    obtain ⟨v, rfl, h⟩ := rts1 hd
    rw [h.str] at r
    exact SkE.call_str_str pins s σ H _ us Q I r ⟨_, rfl, rout_here ho (.str _)⟩
  · cases hf
theorem o_str {i : Int} (h : i.natAbs < 10 ^ 40) : strF [.int i] = some (.str (toString i)) := by
  have h2 : i.natAbs.log2 < 1920 := by
    by_cases e : i.natAbs = 0
    · rw [e]; decide
    · rw [Nat.log2_lt e]
      exact Nat.lt_of_lt_of_le h (by decide +kernel)
  show (if i.natAbs.log2 < 1920 then some (PyData.str (toString i)) else none) = _
  rw [if_pos h2]
def dcpF : List PyData → Option (List (PyData × PyData))
  | [.dict es] => if kindK es = true ∧ es ≠ [] then some es else none
  | _ => none
def eDcp (cs : En → Sto → Rs (List Wv)) : En → Sto → Rs Wv := fun env st => (cs env st).bind fun ws st1 => match looks ws st1 with
  | some ds => match dcpF ds with
    | some es => .ok (.r st1.length) (st1 ++ [.dct es])
    | none => .no
  | none => .no
@[simp] theorem x_dcp (env : En) (st : Sto) (cs : En → Sto → Rs (List Wv)) : eDcp cs env st = (cs env st).bind fun ws st1 => match looks ws st1 with
  | some ds => match dcpF ds with
    | some es => .ok (.r st1.length) (st1 ++ [.dct es])
    | none => .no
  | none => .no := rfl
theorem o_dcp {es : List (PyData × PyData)} (h : kindK es = true) (h2 : es ≠ []) : dcpF [.dict es] = some es := by
  show (if kindK es = true ∧ es ≠ [] then some es else none) = _
  rw [if_pos ⟨h, h2⟩]
theorem de_dcp {cs : En → Sto → Rs (List Wv)} {p : Pos} (c : Cxt M X B k) (j : Nat) (hg : B.gs[j]? = some ("dict" : Str)) (hm : M.mg "dict" = none) (ha : DA X [e] cs) (he : starEach [e] X.env = (false, eval e X.env) :: starEach [] X.env := by rfl) (hpl : (backTo pos (starEach [] X.env)).any (·.1) = false := by rfl) :
    DE X (.Call (.Name "dict" p) [e] [] pos) (eDcp cs) := by
  refine ⟨fun W tk => PE.imp (pe_callTy call_dictD (c.gl j _ hg) (by rw [c.mg]; exact hm) (by decide +kernel) (ha.pa W tk) (by decide) (by decide) he hpl) fun σ H Q ⟨m, env, st, S, R, hp⟩ => ?_⟩
  unfold eDcp at hp
  rw [Rs.post_bind] at hp
  refine ⟨m, env, st, S, R, Rs.post_mono hp (fun ws st1 q vs H1 m1 f1 S1 r1 => ?_) fun _ _ q => q⟩
  split at q
  · rename_i ds e1
    split at q
    · rename_i es e2
      unfold dcpF at e2
      split at e2
      · split at e2
        · rename_i hk
          cases e2
          obtain ⟨v, rfl, h⟩ := rts1 (looks_rt S1 r1 e1)
          obtain ⟨a, rfl, hd⟩ := h.dic
          rcases hd with ⟨ks, h1, h2⟩ | ⟨ks, h1, h2⟩
          · refine ⟨a, ks, rfl, h1, fun p hn => ?_⟩
            have f2 : Fol m1 st1.length H1 (mup m1 st1.length p) (st1.length + 1) (upd H1 p (.dK ks)) := fol_new hn
            have hl : (st1 ++ [Ob.dct es]).length = st1.length + 1 := by simp
            refine q _ _ (mup m1 st1.length p) (by rw [hl]; exact f1.trans f2) (S1.new hn ⟨ks, upd_same, RpK.kp f2.kp _ _ h2⟩) ?_
            rw [hl]; exact ⟨Nat.lt_succ_self _, by rw [mup_new]⟩
          · cases h2 with
            | nil => exact absurd rfl hk.2
            | cons h0 _ _ =>
              have hz := hk.1
              simp only [kindK] at hz
              rw [tkD_keyD h0] at hz
              cases hz
        · cases e2
      · cases e2
    · exact q.elim
  · exact q.elim
/-! ## list(d): a dict's keys -/
theorem rpk_keys {K : Frg} {Z : Addr → Prop} : ∀ {kvs : List (Key × V)} {es : List (PyData × PyData)}, RpK K H Z kvs es → RpA K H Z (kvs.map fun kv => kV kv.1) (es.map (·.1))
  | [], _, h => by cases h; exact .nil
  | (k, v) :: kvs, _, h => by
    cases h with
    | @cons _ _ _ c d es h0 h1 h2 =>
      refine .cons ?_ (rpk_keys h2)
      show Rp K H Z (kV k) c
      cases c with
      | int i => cases h0; exact .int i
      | str x => cases h0; exact .str x
      | _ => cases h0
def lsdF : List PyData → Option PyData
  | [.dict es] => if kindK es = true ∧ es.length ≤ 1000000 then some (.list (es.map (·.1))) else none
  | _ => none
theorem o_lsd {es : List (PyData × PyData)} (h : kindK es = true) (h2 : es.length ≤ 1000000) : lsdF [.dict es] = some (.list (es.map (·.1))) := by
  show (if kindK es = true ∧ es.length ≤ 1000000 then some (PyData.list (es.map (·.1))) else none) = _
  rw [if_pos ⟨h, h2⟩]
theorem c_lsd (hcalm : X.calm = true) : CallR X (.type "list") (rN X.K lsdF) := by
  intro pins s σ H xs us Q I r ⟨Z, ds, e, hz, hd, hf, ho⟩
  unfold lsdF at hf
  split at hf
  · split at hf
    · rename_i es hk
      cases hf
      obtain ⟨v, rfl, h⟩ := rts1 hd
      obtain ⟨a, rfl, h1⟩ := h.dic
      obtain ⟨u, eu, rx⟩ := vals1 r
      subst eu
      cases rx
      obtain ⟨lo, kvs, vs, h2, rel, dd⟩ := dkT_k I h1 hk.1
      obtain ⟨ep, hat⟩ := dd.dictAt
      have z : kvs.length ≤ sizeLine := by rw [h2.len]; exact Nat.le_trans hk.2 (by rw [sizeLine_eq]; decide)
      have ek : (kvs.map fun kv => kV kv.1) = vs.map fun p => kV p.1 := by
        have e := congrArg (List.map kV) rel.keys
        rw [List.map_map, List.map_map] at e
        exact e
      refine PySem.W.kdl_call (PySem.W.kdl_dict (knd := mixKind X.prog X.w) (kvs := vs) (ep := ep) lo) (I.ok.hd hcalm) hat (by rw [← rel.length]; exact z) fun h' tk acc c' hk' hD hacc => ?_
      have hv : Vals (vs.map fun p => kV p.1) acc.toList := keys_at (by rw [Array.length_toList]; exact hacc.1) fun j v e => hacc.2 j v (by rw [← Array.getElem?_toList]; exact e)
      refine ⟨.ref s.heap.objs.size, upd H s.heap.objs.size (.lst (kvs.map fun kv => kV kv.1)), I.laid (t' := tk) hk' (Nat.le_refl _)
        (show ObjOk X.prog X.w _ _ _ (.lst (kvs.map fun kv => kV kv.1)) from ⟨by rw [List.length_map]; exact z, acc.toList, c', by rw [ek]; exact hv, by rw [Array.toArray_toList]; exact hD⟩), rfl, ?_⟩
      exact rout_lst hz ho (rpk_keys h2) _ (I.hok.fresh (Nat.le_refl _))
    · cases hf
  · cases hf
end
end

section
variable [Tbl]
def topS (i : Nat) : Stmt := PySem.Challenge.pw_bentstones_k28_whole_stones_fit_when_cut.main.body.getD i (.Pass ⟨0, 0, 0, 0⟩)
def w_MOST_JOINT : PyData := (.int 9)
def w_MOST_SPAN : PyData := (.int 80)
def w_MOST_SPANS : PyData := (.int 6)
def w_MOST_STONE : PyData := (.int 20)
def w_MOST_STONES : PyData := (.int 12)
@[reducible] instance theW : Wtp := ⟨[]⟩
structure Hs (M : Md) : Prop where
  z_all : M.mg "all" = none
  z_bool : M.mg "bool" = none
  z_enumerate : M.mg "enumerate" = none
  z_int : M.mg "int" = none
  z_isinstance : M.mg "isinstance" = none
  z_len : M.mg "len" = none
  z_list : M.mg "list" = none
  z_max : M.mg "max" = none
  z_min : M.mg "min" = none
  z_range : M.mg "range" = none
  z_sorted : M.mg "sorted" = none
  z_sum : M.mg "sum" = none
  z_tuple : M.mg "tuple" = none
  z_zip : M.mg "zip" = none
  g_MOST_JOINT : Gw M "MOST_JOINT" w_MOST_JOINT
  g_MOST_SPAN : Gw M "MOST_SPAN" w_MOST_SPAN
  g_MOST_SPANS : Gw M "MOST_SPANS" w_MOST_SPANS
  g_MOST_STONE : Gw M "MOST_STONE" w_MOST_STONE
  g_MOST_STONES : Gw M "MOST_STONES" w_MOST_STONES
theorem q_MOST_JOINT {M : Md} {X : Cx} {B : Tb} {k : Nat} {p : Pos} (T : Hs M) (c : Cxt M X B k) (j : Nat) (h : B.gs[j]? = some "MOST_JOINT") : DE X (.Name "MOST_JOINT" p) (eK w_MOST_JOINT) := de_gw c j h T.g_MOST_JOINT
theorem q_MOST_SPAN {M : Md} {X : Cx} {B : Tb} {k : Nat} {p : Pos} (T : Hs M) (c : Cxt M X B k) (j : Nat) (h : B.gs[j]? = some "MOST_SPAN") : DE X (.Name "MOST_SPAN" p) (eK w_MOST_SPAN) := de_gw c j h T.g_MOST_SPAN
theorem q_MOST_SPANS {M : Md} {X : Cx} {B : Tb} {k : Nat} {p : Pos} (T : Hs M) (c : Cxt M X B k) (j : Nat) (h : B.gs[j]? = some "MOST_SPANS") : DE X (.Name "MOST_SPANS" p) (eK w_MOST_SPANS) := de_gw c j h T.g_MOST_SPANS
theorem q_MOST_STONE {M : Md} {X : Cx} {B : Tb} {k : Nat} {p : Pos} (T : Hs M) (c : Cxt M X B k) (j : Nat) (h : B.gs[j]? = some "MOST_STONE") : DE X (.Name "MOST_STONE" p) (eK w_MOST_STONE) := de_gw c j h T.g_MOST_STONE
theorem q_MOST_STONES {M : Md} {X : Cx} {B : Tb} {k : Nat} {p : Pos} (T : Hs M) (c : Cxt M X B k) (j : Nat) (h : B.gs[j]? = some "MOST_STONES") : DE X (.Name "MOST_STONES" p) (eK w_MOST_STONES) := de_gw c j h T.g_MOST_STONES
abbrev s__law_pen_of : Stmt := topS 54
def B__law_pen_of : Tb := ⟨["_law_cell", "_law_left"], [0, 1], [0, 1], [0, 1], ["max", "int"], [], true, false, none⟩
theorem sc__law_pen_of : FnScope B__law_pen_of.N ["_law_cell"] (defScope s__law_pen_of) := ⟨rfl, rfl, rfl, by decide +kernel, rfl, by decide +kernel, by decide +kernel⟩
theorem t__law_pen_of : fnT B__law_pen_of (defScope s__law_pen_of) = true := by decide +kernel
noncomputable def d__law_pen_of : En → Sto → SR :=
    (sSeq (sSet 1 (eOpN max2F (aCons (eVar 0) (aCons (eOp2 subD (eK (.int 0)) (eVar 0)) aNil))))
    (sRet (eNewL (aCons (eVar 1) (aCons (eOpN intF (aCons (eOp2 geD (eVar 1) (eOp2 powD (eK (.int 10)) (eK (.int 18)))) aNil)) (aCons (eOp2 modD (eVar 1) (eK (.int 1000003))) aNil))))))
noncomputable def m__law_pen_of : List Wv → Sto → Rs Wv := mkF 1 2 d__law_pen_of
theorem b__law_pen_of {M : Md} {X : Cx} (T : Hs M)  (c : Cxt M X B__law_pen_of 0) : DB X (defBody s__law_pen_of) d__law_pen_of :=
    (db_cons (ds_set c 1 rfl (by decide) (de_callB (id := "max") c (c_max2 c.calm) 0 rfl T.z_max (by decide +kernel) (da_cons (de_var c 0 rfl (by decide)) (da_cons (de_bin o_sub de_int (de_var c 0 rfl (by decide))) da_nil))))
    (db_one (ds_ret (de_newl (da_cons (de_var c 1 rfl (by decide)) (da_cons (de_callT (T := "int") c c_int 1 rfl T.z_int (by decide +kernel) (da_cons (de_cmp (o_ge c.roomH) (de_var c 1 rfl (by decide)) (de_bin o_pow de_int de_int) (nomark _)) da_nil)) (da_cons (de_bin o_mod (de_var c 1 rfl (by decide)) de_int) da_nil)))))))
theorem h__law_pen_of {M : Md} (T : Hs M)  (F : TopFn M "_law_pen_of" s__law_pen_of ["_law_cell"]) : Has M false 1 "_law_pen_of" ["_law_cell"] m__law_pen_of := has_of F sc__law_pen_of t__law_pen_of rfl rfl (fun X c => b__law_pen_of T  c)
abbrev s__law_cell_at : Stmt := topS 52
def B__law_cell_at : Tb := ⟨["_law_script", "_law_k"], [0, 1], [0, 1], [0, 1], ["len"], [], true, false, none⟩
theorem sc__law_cell_at : FnScope B__law_cell_at.N ["_law_script", "_law_k"] (defScope s__law_cell_at) := ⟨rfl, rfl, rfl, by decide +kernel, rfl, by decide +kernel, by decide +kernel⟩
theorem t__law_cell_at : fnT B__law_cell_at (defScope s__law_cell_at) = true := by decide +kernel
noncomputable def d__law_cell_at : En → Sto → SR :=
    (sSeq (sIf (tBl (eOp2 ltD (eVar 1) (eOpN lenF (aCons (eVar 0) aNil)))) (sRet (eOp2 ixD (eVar 0) (eVar 1))) sNil)
    (sRet (eK (.int 0))))
noncomputable def m__law_cell_at : List Wv → Sto → Rs Wv := mkF 2 2 d__law_cell_at
theorem b__law_cell_at {M : Md} {X : Cx} (T : Hs M)  (c : Cxt M X B__law_cell_at 0) : DB X (defBody s__law_cell_at) d__law_cell_at :=
    (db_cons (ds_if (dt_cmp (o_lt c.roomH) (de_var c 1 rfl (by decide)) (de_callB (id := "len") c c_len 0 rfl T.z_len (by decide +kernel) (da_cons (de_var c 0 rfl (by decide)) da_nil)) (nomark _)) (db_one (ds_ret (de_ix c.roomH (de_var c 0 rfl (by decide)) (de_var c 1 rfl (by decide)) (fun _ _ => rfl)))) db_nil)
    (db_one (ds_ret de_int)))
theorem h__law_cell_at {M : Md} (T : Hs M)  (F : TopFn M "_law_cell_at" s__law_cell_at ["_law_script", "_law_k"]) : Has M false 1 "_law_cell_at" ["_law_script", "_law_k"] m__law_cell_at := has_of F sc__law_cell_at t__law_cell_at rfl rfl (fun X c => b__law_cell_at T  c)
abbrev s__law_next : Stmt := topS 53
def B__law_next : Tb := ⟨["_law_seed"], [0], [0], [0], [], [], true, false, none⟩
theorem sc__law_next : FnScope B__law_next.N ["_law_seed"] (defScope s__law_next) := ⟨rfl, rfl, rfl, by decide +kernel, rfl, by decide +kernel, by decide +kernel⟩
theorem t__law_next : fnT B__law_next (defScope s__law_next) = true := by decide +kernel
noncomputable def d__law_next : En → Sto → SR :=
    (sSeq (sSet 0 (eOp2 modD (eOp2 addD (eVar 0) (eK (.int 7919))) (eK (.int 2147483647))))
    (sRet (eOp2 modD (eOp2 addD (eOp2 addD (eOp2 mulD (eVar 0) (eVar 0)) (eOp2 mulD (eK (.int 48271)) (eVar 0))) (eK (.int 12345))) (eK (.int 2147483629)))))
noncomputable def m__law_next : List Wv → Sto → Rs Wv := mkF 1 1 d__law_next
theorem b__law_next {M : Md} {X : Cx} (T : Hs M)  (c : Cxt M X B__law_next 0) : DB X (defBody s__law_next) d__law_next :=
    (db_cons (ds_set c 0 rfl (by decide) (de_bin o_mod (de_bin o_add (de_var c 0 rfl (by decide)) de_int) de_int))
    (db_one (ds_ret (de_bin o_mod (de_bin o_add (de_bin o_add (de_bin o_mul (de_var c 0 rfl (by decide)) (de_var c 0 rfl (by decide))) (de_bin o_mul de_int (de_var c 0 rfl (by decide)))) de_int) de_int))))
theorem h__law_next {M : Md} (T : Hs M)  (F : TopFn M "_law_next" s__law_next ["_law_seed"]) : Has M false 1 "_law_next" ["_law_seed"] m__law_next := has_of F sc__law_next t__law_next rfl rfl (fun X c => b__law_next T  c)
abbrev s__law_draw : Stmt := topS 55
def B__law_draw : Tb := ⟨["_law_pen", "_law_many", "_law_found"], [0, 1, 2], [0, 1, 2], [0, 1, 2], ["_law_next"], [], true, false, none⟩
theorem sc__law_draw : FnScope B__law_draw.N ["_law_pen", "_law_many"] (defScope s__law_draw) := ⟨rfl, rfl, rfl, by decide +kernel, rfl, by decide +kernel, by decide +kernel⟩
theorem t__law_draw : fnT B__law_draw (defScope s__law_draw) = true := by decide +kernel
noncomputable def d__law_draw : En → Sto → SR :=
    (sSeq (sIf (tAnd2 (tBl (eOp2 eqD (eOp2 ixD (eVar 0) (eK (.int 1))) (eK (.int 1)))) (tBl (eOp2 gtD (eOp2 ixD (eVar 0) (eK (.int 0))) (eK (.int 0))))) (sSeq (sSet 2 (eOp2 modD (eOp2 ixD (eVar 0) (eK (.int 0))) (eVar 1)))
    (sSeq (sIx (eVar 0) (eK (.int 0)) (eOp2 divD (eOp2 ixD (eVar 0) (eK (.int 0))) (eVar 1)))
    (sRet (eVar 2)))) sNil)
    (sSeq (sIx (eVar 0) (eK (.int 2)) (eCall m__law_next (aCons (eOp2 addD (eCall m__law_next (aCons (eOp2 ixD (eVar 0) (eK (.int 2))) aNil)) (eK (.int 7))) aNil)))
    (sRet (eOp2 modD (eOp2 divD (eOp2 ixD (eVar 0) (eK (.int 2))) (eK (.int 64))) (eVar 1)))))
noncomputable def m__law_draw : List Wv → Sto → Rs Wv := mkF 2 3 d__law_draw
theorem b__law_draw {M : Md} {X : Cx} (T : Hs M) (h__law_next : Has M false 1 "_law_next" ["_law_seed"] m__law_next) (c : Cxt M X B__law_draw 1) : DB X (defBody s__law_draw) d__law_draw :=
    (db_cons (ds_if (DW.dt (dw_and (dt_cmp (o_eq c.roomH) (de_ix c.roomH (de_var c 0 rfl (by decide)) de_int (fun _ _ => rfl)) de_int (nomark _)) (dw_and1 (dt_cmp (o_gt c.roomH) (de_ix c.roomH (de_var c 0 rfl (by decide)) de_int (fun _ _ => rfl)) de_int (nomark _))))) (db_cons (ds_set c 2 rfl (by decide) (de_bin o_mod (de_ix c.roomH (de_var c 0 rfl (by decide)) de_int (fun _ _ => rfl)) (de_var c 1 rfl (by decide))))
    (db_cons (ds_setix c (de_var c 0 rfl (by decide)) de_int (de_bin o_div (de_ix c.roomH (de_var c 0 rfl (by decide)) de_int (fun _ _ => rfl)) (de_var c 1 rfl (by decide))))
    (db_one (ds_ret (de_var c 2 rfl (by decide)))))) db_nil)
    (db_cons (ds_setix c (de_var c 0 rfl (by decide)) de_int (de_fn c (h__law_next.up (by decide)) 0 rfl (da_cons (de_bin o_add (de_fn c (h__law_next.up (by decide)) 0 rfl (da_cons (de_ix c.roomH (de_var c 0 rfl (by decide)) de_int (fun _ _ => rfl)) da_nil)) de_int) da_nil)))
    (db_one (ds_ret (de_bin o_mod (de_bin o_div (de_ix c.roomH (de_var c 0 rfl (by decide)) de_int (fun _ _ => rfl)) de_int) (de_var c 1 rfl (by decide)))))))
theorem h__law_draw {M : Md} (T : Hs M) (h__law_next : Has M false 1 "_law_next" ["_law_seed"] m__law_next) (F : TopFn M "_law_draw" s__law_draw ["_law_pen", "_law_many"]) : Has M false 2 "_law_draw" ["_law_pen", "_law_many"] m__law_draw := has_of F sc__law_draw t__law_draw rfl rfl (fun X c => b__law_draw T h__law_next c)
abbrev s__law_longs : Stmt := topS 56
def B__law_longs : Tb := ⟨["_law_pen", "_law_most", "_law_mode", "_law_many", ".0", "_law_k"], [0, 1, 2, 3], [0, 1, 2, 3], [1, 3], ["_law_draw", "tuple", "range"], ["_law_pen", "_law_mode"], true, false, none⟩
theorem sc__law_longs : FnScope B__law_longs.N ["_law_pen", "_law_most"] (defScope s__law_longs) := ⟨rfl, rfl, rfl, by decide +kernel, rfl, by decide +kernel, by decide +kernel⟩
theorem t__law_longs : fnT B__law_longs (defScope s__law_longs) = true := by decide +kernel
noncomputable def d__law_longs : En → Sto → SR :=
    (sSeq (sAsg (gTp (gCn (gN 2) (gCn (gN 3) gNl))) (eTup (aCons (eCall m__law_draw (aCons (eVar 0) (aCons (eK (.int 3)) aNil))) (aCons (eOp2 addD (eK (.int 1)) (eCall m__law_draw (aCons (eVar 0) (aCons (eVar 1) aNil)))) aNil))))
    (sRet (eOpN tupF (aCons (eLc (cRg1 (aCons (eVar 3) aNil)) (gN 5) tYs (eOp2 addD (eK (.int 1)) (eCall m__law_draw (aCons (eVar 0) (aCons (eOp2 ixD (eLst (aCons (eK (.int 3)) (aCons (eK (.int 8)) (aCons (eK (.int 20)) aNil)))) (eVar 2)) aNil)))) [4, 5]) aNil))))
noncomputable def m__law_longs : List Wv → Sto → Rs Wv := mkF 2 6 d__law_longs
theorem b__law_longs {M : Md} {X : Cx} (T : Hs M) (h__law_draw : Has M false 2 "_law_draw" ["_law_pen", "_law_many"] m__law_draw) (c : Cxt M X B__law_longs 2) : DB X (defBody s__law_longs) d__law_longs :=
    (db_cons (ds_asg (de_tup (da_cons (de_fn c (h__law_draw.up (by decide)) 0 rfl (da_cons (de_var c 0 rfl (by decide)) (da_cons de_int da_nil))) (da_cons (de_bin o_add de_int (de_fn c (h__law_draw.up (by decide)) 0 rfl (da_cons (de_var c 0 rfl (by decide)) (da_cons (de_var c 1 rfl (by decide)) da_nil)))) da_nil))) (dg_tup c (dgs_cons (dg_name c [2, 3] 2 rfl (by decide) (by decide)) (dgs_cons (dg_name c [2, 3] 3 rfl (by decide) (by decide)) (dgs_nil [2, 3]))) (asks_cons (asks_cons asks_nil))) (hw := sw2n c (.inl (by decide +kernel))))
    (db_one (ds_ret (de_callT (T := "tuple") c c_tup 1 rfl T.z_tuple (by decide +kernel) (da_cons (de_lc c (lc_ok c [(".0", 4), ("_law_k", 5)] [4, 5, 2, 0] [4, 5] ["_law_draw"] ["_law_mode", "_law_pen"] (by decide +kernel) (di_range1 c 2 rfl T.z_range (da_cons (de_var c 3 rfl (by decide)) da_nil)) (by decide) (fun _ c1 => (dg_name c1 [4, 5] 5 rfl (by decide) (by decide))) (fun _ c1 => dts_nil) (fun _ c1 => (de_bin o_add de_int (de_fn c1 (h__law_draw.up (by decide)) 0 rfl (da_cons (de_var c1 0 rfl (by decide)) (da_cons (de_ix c1.roomH (de_lst (da_cons de_int (da_cons de_int (da_cons de_int da_nil)))) (de_var c1 2 rfl (by decide)) (fun _ _ => rfl)) da_nil))))))) da_nil)))))
theorem h__law_longs {M : Md} (T : Hs M) (h__law_draw : Has M false 2 "_law_draw" ["_law_pen", "_law_many"] m__law_draw) (F : TopFn M "_law_longs" s__law_longs ["_law_pen", "_law_most"]) : Has M false 3 "_law_longs" ["_law_pen", "_law_most"] m__law_longs := has_of F sc__law_longs t__law_longs rfl rfl (fun X c => b__law_longs T h__law_draw c)
abbrev s__law_joints : Stmt := topS 57
def B__law_joints : Tb := ⟨["_law_pen", "_law_low"], [0, 1], [0, 1], [0, 1], ["_law_draw", "min"], [], true, false, none⟩
theorem sc__law_joints : FnScope B__law_joints.N ["_law_pen"] (defScope s__law_joints) := ⟨rfl, rfl, rfl, by decide +kernel, rfl, by decide +kernel, by decide +kernel⟩
theorem t__law_joints : fnT B__law_joints (defScope s__law_joints) = true := by decide +kernel
noncomputable def d__law_joints : En → Sto → SR :=
    (sSeq (sSet 1 (eOp2 ixD (eLst (aCons (eK (.int 0)) (aCons (eK (.int 1)) (aCons (eCall m__law_draw (aCons (eVar 0) (aCons (eK (.int 10)) aNil))) aNil)))) (eCall m__law_draw (aCons (eVar 0) (aCons (eK (.int 3)) aNil)))))
    (sRet (eTup (aCons (eVar 1) (aCons (eOp2 addD (eVar 1) (eCall m__law_draw (aCons (eVar 0) (aCons (eOp2 ixD (eLst (aCons (eOp2 subD (eK (.int 10)) (eVar 1)) (aCons (eOpN min2F (aCons (eK (.int 3)) (aCons (eOp2 subD (eK (.int 10)) (eVar 1)) aNil))) aNil))) (eCall m__law_draw (aCons (eVar 0) (aCons (eK (.int 2)) aNil)))) aNil)))) aNil)))))
noncomputable def m__law_joints : List Wv → Sto → Rs Wv := mkF 1 2 d__law_joints
theorem b__law_joints {M : Md} {X : Cx} (T : Hs M) (h__law_draw : Has M false 2 "_law_draw" ["_law_pen", "_law_many"] m__law_draw) (c : Cxt M X B__law_joints 2) : DB X (defBody s__law_joints) d__law_joints :=
    (db_cons (ds_set c 1 rfl (by decide) (de_ix c.roomH (de_lst (da_cons de_int (da_cons de_int (da_cons (de_fn c (h__law_draw.up (by decide)) 0 rfl (da_cons (de_var c 0 rfl (by decide)) (da_cons de_int da_nil))) da_nil)))) (de_fn c (h__law_draw.up (by decide)) 0 rfl (da_cons (de_var c 0 rfl (by decide)) (da_cons de_int da_nil))) (fun _ _ => rfl)))
    (db_one (ds_ret (de_tup (da_cons (de_var c 1 rfl (by decide)) (da_cons (de_bin o_add (de_var c 1 rfl (by decide)) (de_fn c (h__law_draw.up (by decide)) 0 rfl (da_cons (de_var c 0 rfl (by decide)) (da_cons (de_ix c.roomH (de_lst (da_cons (de_bin o_sub de_int (de_var c 1 rfl (by decide))) (da_cons (de_callB (id := "min") c (c_min2 c.calm) 1 rfl T.z_min (by decide +kernel) (da_cons de_int (da_cons (de_bin o_sub de_int (de_var c 1 rfl (by decide))) da_nil))) da_nil))) (de_fn c (h__law_draw.up (by decide)) 0 rfl (da_cons (de_var c 0 rfl (by decide)) (da_cons de_int da_nil))) (fun _ _ => rfl)) da_nil)))) da_nil))))))
theorem h__law_joints {M : Md} (T : Hs M) (h__law_draw : Has M false 2 "_law_draw" ["_law_pen", "_law_many"] m__law_draw) (F : TopFn M "_law_joints" s__law_joints ["_law_pen"]) : Has M false 3 "_law_joints" ["_law_pen"] m__law_joints := has_of F sc__law_joints t__law_joints rfl rfl (fun X c => b__law_joints T h__law_draw c)
abbrev s__law_span : Stmt := topS 58
def B__law_span : Tb := ⟨["_law_pen", "_law_longs_here", "_law_joints_here", "_law_many", "_law_low", "_law_high", "_law_mode", "_law_near", "_law_past", "_law_short", "_law_far"], [0, 1, 2, 3, 4, 5, 6, 7, 8, 9, 10], [0, 1, 2, 3, 4, 5, 6, 7, 8, 9, 10], [0, 1, 2, 3, 4, 5, 6, 7, 8, 9, 10], ["len", "sum", "_law_draw", "max", "min"], [], true, false, none⟩
theorem sc__law_span : FnScope B__law_span.N ["_law_pen", "_law_longs_here", "_law_joints_here"] (defScope s__law_span) := ⟨rfl, rfl, rfl, by decide +kernel, rfl, by decide +kernel, by decide +kernel⟩
theorem t__law_span : fnT B__law_span (defScope s__law_span) = true := by decide +kernel
noncomputable def d__law_span : En → Sto → SR :=
    (sSeq (sSet 3 (eOp2 subD (eOpN lenF (aCons (eVar 1) aNil)) (eK (.int 1))))
    (sSeq (sSet 4 (eOp2 addD (eOpN sumF (aCons (eVar 1) aNil)) (eOp2 mulD (eVar 3) (eOp2 ixD (eVar 2) (eK (.int 0))))))
    (sSeq (sSet 5 (eOp2 addD (eOpN sumF (aCons (eVar 1) aNil)) (eOp2 mulD (eVar 3) (eOp2 ixD (eVar 2) (eK (.int 1))))))
    (sSeq (sSet 6 (eCall m__law_draw (aCons (eVar 0) (aCons (eK (.int 5)) aNil))))
    (sSeq (sSet 7 (eCall m__law_draw (aCons (eVar 0) (aCons (eOp2 addD (eOp2 subD (eVar 5) (eVar 4)) (eK (.int 1))) aNil))))
    (sSeq (sPar2 8 9 (aCons (eOp2 addD (eK (.int 1)) (eCall m__law_draw (aCons (eVar 0) (aCons (eK (.int 4)) aNil)))) (aCons (eOp2 addD (eK (.int 1)) (eCall m__law_draw (aCons (eVar 0) (aCons (eK (.int 9)) aNil)))) aNil)))
    (sSeq (sSet 10 (eOp2 ixD (eLst (aCons (eVar 4) (aCons (eVar 5) (aCons (eOp2 addD (eVar 4) (eVar 7)) (aCons (eOp2 addD (eVar 5) (eVar 8)) (aCons (eOp2 subD (eVar 4) (eVar 9)) aNil)))))) (eVar 6)))
    (sRet (eOpN max2F (aCons (eK (.int 1)) (aCons (eOpN min2F (aCons (eK (.int 80)) (aCons (eVar 10) aNil))) aNil)))))))))))
noncomputable def m__law_span : List Wv → Sto → Rs Wv := mkF 3 11 d__law_span
theorem b__law_span {M : Md} {X : Cx} (T : Hs M) (h__law_draw : Has M false 2 "_law_draw" ["_law_pen", "_law_many"] m__law_draw) (c : Cxt M X B__law_span 2) : DB X (defBody s__law_span) d__law_span :=
    (db_cons (ds_set c 3 rfl (by decide) (de_bin o_sub (de_callB (id := "len") c c_len 0 rfl T.z_len (by decide +kernel) (da_cons (de_var c 1 rfl (by decide)) da_nil)) de_int))
    (db_cons (ds_set c 4 rfl (by decide) (de_bin o_add (de_callB (id := "sum") c (c_sum c.calm) 1 rfl T.z_sum (by decide +kernel) (da_cons (de_var c 1 rfl (by decide)) da_nil)) (de_bin o_mul (de_var c 3 rfl (by decide)) (de_ix c.roomH (de_var c 2 rfl (by decide)) de_int (fun _ _ => rfl)))))
    (db_cons (ds_set c 5 rfl (by decide) (de_bin o_add (de_callB (id := "sum") c (c_sum c.calm) 1 rfl T.z_sum (by decide +kernel) (da_cons (de_var c 1 rfl (by decide)) da_nil)) (de_bin o_mul (de_var c 3 rfl (by decide)) (de_ix c.roomH (de_var c 2 rfl (by decide)) de_int (fun _ _ => rfl)))))
    (db_cons (ds_set c 6 rfl (by decide) (de_fn c (h__law_draw.up (by decide)) 2 rfl (da_cons (de_var c 0 rfl (by decide)) (da_cons de_int da_nil))))
    (db_cons (ds_set c 7 rfl (by decide) (de_fn c (h__law_draw.up (by decide)) 2 rfl (da_cons (de_var c 0 rfl (by decide)) (da_cons (de_bin o_add (de_bin o_sub (de_var c 5 rfl (by decide)) (de_var c 4 rfl (by decide))) de_int) da_nil))))
    (db_cons (ds_par2 c 8 9 rfl rfl (by decide) (isLoc c (i := 8) (by decide) rfl) (isLoc c (i := 9) (by decide) rfl) (da_cons (de_bin o_add de_int (de_fn c (h__law_draw.up (by decide)) 2 rfl (da_cons (de_var c 0 rfl (by decide)) (da_cons de_int da_nil)))) (da_cons (de_bin o_add de_int (de_fn c (h__law_draw.up (by decide)) 2 rfl (da_cons (de_var c 0 rfl (by decide)) (da_cons de_int da_nil)))) da_nil)) (sw2 c (i := 8) (j := 9) rfl rfl (by decide) (by decide) (by decide +kernel) rfl rfl (by intro _ _ h; cases h) (by intro _ _ h; cases h) rfl rfl))
    (db_cons (ds_set c 10 rfl (by decide) (de_ix c.roomH (de_lst (da_cons (de_var c 4 rfl (by decide)) (da_cons (de_var c 5 rfl (by decide)) (da_cons (de_bin o_add (de_var c 4 rfl (by decide)) (de_var c 7 rfl (by decide))) (da_cons (de_bin o_add (de_var c 5 rfl (by decide)) (de_var c 8 rfl (by decide))) (da_cons (de_bin o_sub (de_var c 4 rfl (by decide)) (de_var c 9 rfl (by decide))) da_nil)))))) (de_var c 6 rfl (by decide)) (fun _ _ => rfl)))
    (db_one (ds_ret (de_callB (id := "max") c (c_max2 c.calm) 3 rfl T.z_max (by decide +kernel) (da_cons de_int (da_cons (de_callB (id := "min") c (c_min2 c.calm) 4 rfl T.z_min (by decide +kernel) (da_cons de_int (da_cons (de_var c 10 rfl (by decide)) da_nil))) da_nil))))))))))))
theorem h__law_span {M : Md} (T : Hs M) (h__law_draw : Has M false 2 "_law_draw" ["_law_pen", "_law_many"] m__law_draw) (F : TopFn M "_law_span" s__law_span ["_law_pen", "_law_longs_here", "_law_joints_here"]) : Has M false 3 "_law_span" ["_law_pen", "_law_longs_here", "_law_joints_here"] m__law_span := has_of F sc__law_span t__law_span rfl rfl (fun X c => b__law_span T h__law_draw c)
abbrev s_is_whole : Stmt := topS 7
def B_is_whole : Tb := ⟨["thing"], [0], [0], [0], ["isinstance", "int", "bool"], [], true, false, none⟩
theorem sc_is_whole : FnScope B_is_whole.N ["thing"] (defScope s_is_whole) := ⟨rfl, rfl, rfl, by decide +kernel, rfl, by decide +kernel, by decide +kernel⟩
theorem t_is_whole : fnT B_is_whole (defScope s_is_whole) = true := by decide +kernel
noncomputable def d_is_whole : En → Sto → SR :=
    (sRet (eAnd2 (eOp1 (isaD "int") (eVar 0)) (eNot1 (eOp1 (isaD "bool") (eVar 0)))))
noncomputable def m_is_whole : List Wv → Sto → Rs Wv := mkF 1 1 d_is_whole
theorem b_is_whole {M : Md} {X : Cx} (T : Hs M)  (c : Cxt M X B_is_whole 0) : DB X (defBody s_is_whole) d_is_whole :=
    (db_one (ds_ret (de_and (de_isa c 0 1 rfl T.z_isinstance rfl T.z_int (by decide +kernel) (de_var c 0 rfl (by decide))) (de_one (de_not (de_isa c 0 2 rfl T.z_isinstance rfl T.z_bool (by decide +kernel) (de_var c 0 rfl (by decide))))))))
theorem h_is_whole {M : Md} (T : Hs M)  (F : TopFn M "is_whole" s_is_whole ["thing"]) : Has M false 1 "is_whole" ["thing"] m_is_whole := has_of F sc_is_whole t_is_whole rfl rfl (fun X c => b_is_whole T  c)
abbrev s_is_from_to : Stmt := topS 8
def B_is_from_to : Tb := ⟨["thing", "least", "most"], [0, 1, 2], [0, 1, 2], [0, 1, 2], ["is_whole"], [], true, false, none⟩
theorem sc_is_from_to : FnScope B_is_from_to.N ["thing", "least", "most"] (defScope s_is_from_to) := ⟨rfl, rfl, rfl, by decide +kernel, rfl, by decide +kernel, by decide +kernel⟩
theorem t_is_from_to : fnT B_is_from_to (defScope s_is_from_to) = true := by decide +kernel
noncomputable def d_is_from_to : En → Sto → SR :=
    (sRet (eAnd2 (eCall m_is_whole (aCons (eVar 0) aNil)) (eChain leD leD (eVar 1) (eVar 0) (eVar 2))))
noncomputable def m_is_from_to : List Wv → Sto → Rs Wv := mkF 3 3 d_is_from_to
theorem b_is_from_to {M : Md} {X : Cx} (T : Hs M) (h_is_whole : Has M false 1 "is_whole" ["thing"] m_is_whole) (c : Cxt M X B_is_from_to 1) : DB X (defBody s_is_from_to) d_is_from_to :=
    (db_one (ds_ret (de_and (de_fn c (h_is_whole.up (by decide)) 0 rfl (da_cons (de_var c 0 rfl (by decide)) da_nil)) (de_one (de_chain (o_le c.roomH) (o_le c.roomH) (de_var c 1 rfl (by decide)) (de_var c 0 rfl (by decide)) (de_var c 2 rfl (by decide)))))))
theorem h_is_from_to {M : Md} (T : Hs M) (h_is_whole : Has M false 1 "is_whole" ["thing"] m_is_whole) (F : TopFn M "is_from_to" s_is_from_to ["thing", "least", "most"]) : Has M false 2 "is_from_to" ["thing", "least", "most"] m_is_from_to := has_of F sc_is_from_to t_is_from_to rfl rfl (fun X c => b_is_from_to T h_is_whole c)
abbrev s_are_longs : Stmt := topS 14
def B_are_longs : Tb := ⟨["thing", ".0", "one"], [0], [0], [0], ["isinstance", "tuple", "len", "MOST_STONES", "all"], [], true, false, none⟩
theorem sc_are_longs : FnScope B_are_longs.N ["thing"] (defScope s_are_longs) := ⟨rfl, rfl, rfl, by decide +kernel, rfl, by decide +kernel, by decide +kernel⟩
theorem t_are_longs : fnT B_are_longs (defScope s_are_longs) = true := by decide +kernel
noncomputable def d_are_longs : En → Sto → SR :=
    (sSeq (sIf (tOr2 (tNot1 (tTru (eOp1 (isaD "tuple") (eVar 0)))) (tNot1 (tBl (eChain leD leD (eK (.int 1)) (eOpN lenF (aCons (eVar 0) aNil)) (eK w_MOST_STONES))))) (sRet (eK (.bool false))) sNil)
    (sRet (eOpN allF (aCons (eLc (cSeq (eVar 0)) (gN 2) tYs (eCall m_is_from_to (aCons (eVar 2) (aCons (eK (.int 1)) (aCons (eK w_MOST_STONE) aNil)))) [1, 2]) aNil))))
noncomputable def m_are_longs : List Wv → Sto → Rs Wv := mkF 1 3 d_are_longs
theorem b_are_longs {M : Md} {X : Cx} (T : Hs M) (h_is_from_to : Has M false 2 "is_from_to" ["thing", "least", "most"] m_is_from_to) (c : Cxt M X B_are_longs 2) : DB X (defBody s_are_longs) d_are_longs :=
    (db_cons (ds_if (DW.dt (dw_or (dt_not (dt_val (de_isa c 0 1 rfl T.z_isinstance rfl T.z_tuple (by decide +kernel) (de_var c 0 rfl (by decide))))) (dw_or1 (dt_not (dt_chain (o_le c.roomH) (o_le c.roomH) de_int (de_callB (id := "len") c c_len 2 rfl T.z_len (by decide +kernel) (da_cons (de_var c 0 rfl (by decide)) da_nil)) (q_MOST_STONES T c 3 rfl)))))) (db_one (ds_ret de_bl)) db_nil)
    (db_one (ds_ret (de_callB (id := "all") c (c_all c.calm) 4 rfl T.z_all (by decide +kernel) (da_cons (de_lc c (lc_ok c [(".0", 1), ("one", 2)] [1, 2] [1, 2] ["is_from_to", "MOST_STONE"] [] (by decide +kernel) (di_seq (de_var c 0 rfl (by decide))) (by decide) (fun _ c2 => (dg_name c2 [1, 2] 2 rfl (by decide) (by decide))) (fun _ c2 => dts_nil) (fun _ c2 => (de_fn c2 (h_is_from_to.up (by decide)) 0 rfl (da_cons (de_var c2 2 rfl (by decide)) (da_cons de_int (da_cons (q_MOST_STONE T c2 1 rfl) da_nil))))))) da_nil)))))
theorem h_are_longs {M : Md} (T : Hs M) (h_is_from_to : Has M false 2 "is_from_to" ["thing", "least", "most"] m_is_from_to) (F : TopFn M "are_longs" s_are_longs ["thing"]) : Has M false 3 "are_longs" ["thing"] m_are_longs := has_of F sc_are_longs t_are_longs rfl rfl (fun X c => b_are_longs T h_is_from_to c)
abbrev s_need_longs : Stmt := topS 15
def B_need_longs : Tb := ⟨["longs"], [0], [0], [0], ["are_longs", "NoLongs"], [], true, false, none⟩
theorem sc_need_longs : FnScope B_need_longs.N ["longs"] (defScope s_need_longs) := ⟨rfl, rfl, rfl, by decide +kernel, rfl, by decide +kernel, by decide +kernel⟩
theorem t_need_longs : fnT B_need_longs (defScope s_need_longs) = true := by decide +kernel
noncomputable def d_need_longs : En → Sto → SR :=
    (sIf (tNot1 (tTru (eCall m_are_longs (aCons (eVar 0) aNil)))) sNo sNil)
noncomputable def m_need_longs : List Wv → Sto → Rs Wv := mkF 1 1 d_need_longs
theorem b_need_longs {M : Md} {X : Cx} (T : Hs M) (h_are_longs : Has M false 3 "are_longs" ["thing"] m_are_longs) (c : Cxt M X B_need_longs 3) : DB X (defBody s_need_longs) d_need_longs :=
    (db_one (ds_if (dt_not (dt_val (de_fn c (h_are_longs.up (by decide)) 0 rfl (da_cons (de_var c 0 rfl (by decide)) da_nil)))) (db_one ds_no) db_nil))
theorem h_need_longs {M : Md} (T : Hs M) (h_are_longs : Has M false 3 "are_longs" ["thing"] m_are_longs) (F : TopFn M "need_longs" s_need_longs ["longs"]) : Has M false 4 "need_longs" ["longs"] m_need_longs := has_of F sc_need_longs t_need_longs rfl rfl (fun X c => b_need_longs T h_are_longs c)
abbrev s_is_span : Stmt := topS 16
def B_is_span : Tb := ⟨["thing"], [0], [0], [0], ["is_from_to", "MOST_SPAN"], [], true, false, none⟩
theorem sc_is_span : FnScope B_is_span.N ["thing"] (defScope s_is_span) := ⟨rfl, rfl, rfl, by decide +kernel, rfl, by decide +kernel, by decide +kernel⟩
theorem t_is_span : fnT B_is_span (defScope s_is_span) = true := by decide +kernel
noncomputable def d_is_span : En → Sto → SR :=
    (sRet (eCall m_is_from_to (aCons (eVar 0) (aCons (eK (.int 1)) (aCons (eK w_MOST_SPAN) aNil)))))
noncomputable def m_is_span : List Wv → Sto → Rs Wv := mkF 1 1 d_is_span
theorem b_is_span {M : Md} {X : Cx} (T : Hs M) (h_is_from_to : Has M false 2 "is_from_to" ["thing", "least", "most"] m_is_from_to) (c : Cxt M X B_is_span 2) : DB X (defBody s_is_span) d_is_span :=
    (db_one (ds_ret (de_fn c (h_is_from_to.up (by decide)) 0 rfl (da_cons (de_var c 0 rfl (by decide)) (da_cons de_int (da_cons (q_MOST_SPAN T c 1 rfl) da_nil))))))
theorem h_is_span {M : Md} (T : Hs M) (h_is_from_to : Has M false 2 "is_from_to" ["thing", "least", "most"] m_is_from_to) (F : TopFn M "is_span" s_is_span ["thing"]) : Has M false 3 "is_span" ["thing"] m_is_span := has_of F sc_is_span t_is_span rfl rfl (fun X c => b_is_span T h_is_from_to c)
abbrev s_need_spans : Stmt := topS 35
def B_need_spans : Tb := ⟨["spans", ".0", "span"], [0], [0], [0], ["isinstance", "tuple", "len", "MOST_SPANS", "NoSpan", "all"], [], true, false, none⟩
theorem sc_need_spans : FnScope B_need_spans.N ["spans"] (defScope s_need_spans) := ⟨rfl, rfl, rfl, by decide +kernel, rfl, by decide +kernel, by decide +kernel⟩
theorem t_need_spans : fnT B_need_spans (defScope s_need_spans) = true := by decide +kernel
noncomputable def d_need_spans : En → Sto → SR :=
    (sSeq (sIf (tOr2 (tNot1 (tTru (eOp1 (isaD "tuple") (eVar 0)))) (tNot1 (tBl (eChain leD leD (eK (.int 1)) (eOpN lenF (aCons (eVar 0) aNil)) (eK w_MOST_SPANS))))) sNo sNil)
    (sIf (tNot1 (tTru (eOpN allF (aCons (eLc (cSeq (eVar 0)) (gN 2) tYs (eCall m_is_span (aCons (eVar 2) aNil)) [1, 2]) aNil)))) sNo sNil))
noncomputable def m_need_spans : List Wv → Sto → Rs Wv := mkF 1 3 d_need_spans
theorem b_need_spans {M : Md} {X : Cx} (T : Hs M) (h_is_span : Has M false 3 "is_span" ["thing"] m_is_span) (c : Cxt M X B_need_spans 3) : DB X (defBody s_need_spans) d_need_spans :=
    (db_cons (ds_if (DW.dt (dw_or (dt_not (dt_val (de_isa c 0 1 rfl T.z_isinstance rfl T.z_tuple (by decide +kernel) (de_var c 0 rfl (by decide))))) (dw_or1 (dt_not (dt_chain (o_le c.roomH) (o_le c.roomH) de_int (de_callB (id := "len") c c_len 2 rfl T.z_len (by decide +kernel) (da_cons (de_var c 0 rfl (by decide)) da_nil)) (q_MOST_SPANS T c 3 rfl)))))) (db_one ds_no) db_nil)
    (db_one (ds_if (dt_not (dt_val (de_callB (id := "all") c (c_all c.calm) 5 rfl T.z_all (by decide +kernel) (da_cons (de_lc c (lc_ok c [(".0", 1), ("span", 2)] [1, 2] [1, 2] ["is_span"] [] (by decide +kernel) (di_seq (de_var c 0 rfl (by decide))) (by decide) (fun _ c3 => (dg_name c3 [1, 2] 2 rfl (by decide) (by decide))) (fun _ c3 => dts_nil) (fun _ c3 => (de_fn c3 (h_is_span.up (by decide)) 0 rfl (da_cons (de_var c3 2 rfl (by decide)) da_nil))))) da_nil)))) (db_one ds_no) db_nil)))
theorem h_need_spans {M : Md} (T : Hs M) (h_is_span : Has M false 3 "is_span" ["thing"] m_is_span) (F : TopFn M "need_spans" s_need_spans ["spans"]) : Has M false 4 "need_spans" ["spans"] m_need_spans := has_of F sc_need_spans t_need_spans rfl rfl (fun X c => b_need_spans T h_is_span c)
abbrev s_are_joints : Stmt := topS 18
def B_are_joints : Tb := ⟨["thing"], [0], [0], [0], ["isinstance", "tuple", "len", "is_from_to", "MOST_JOINT"], [], true, false, none⟩
theorem sc_are_joints : FnScope B_are_joints.N ["thing"] (defScope s_are_joints) := ⟨rfl, rfl, rfl, by decide +kernel, rfl, by decide +kernel, by decide +kernel⟩
theorem t_are_joints : fnT B_are_joints (defScope s_are_joints) = true := by decide +kernel
noncomputable def d_are_joints : En → Sto → SR :=
    (sSeq (sIf (tOr2 (tNot1 (tTru (eOp1 (isaD "tuple") (eVar 0)))) (tBl (eOp2 neD (eOpN lenF (aCons (eVar 0) aNil)) (eK (.int 2))))) (sRet (eK (.bool false))) sNil)
    (sRet (eAnd2 (eCall m_is_from_to (aCons (eOp2 ixD (eVar 0) (eK (.int 0))) (aCons (eK (.int 0)) (aCons (eK w_MOST_JOINT) aNil)))) (eCall m_is_from_to (aCons (eOp2 ixD (eVar 0) (eK (.int 1))) (aCons (eOp2 ixD (eVar 0) (eK (.int 0))) (aCons (eK w_MOST_JOINT) aNil)))))))
noncomputable def m_are_joints : List Wv → Sto → Rs Wv := mkF 1 1 d_are_joints
theorem b_are_joints {M : Md} {X : Cx} (T : Hs M) (h_is_from_to : Has M false 2 "is_from_to" ["thing", "least", "most"] m_is_from_to) (c : Cxt M X B_are_joints 2) : DB X (defBody s_are_joints) d_are_joints :=
    (db_cons (ds_if (DW.dt (dw_or (dt_not (dt_val (de_isa c 0 1 rfl T.z_isinstance rfl T.z_tuple (by decide +kernel) (de_var c 0 rfl (by decide))))) (dw_or1 (dt_cmp (o_ne c.roomH) (de_callB (id := "len") c c_len 2 rfl T.z_len (by decide +kernel) (da_cons (de_var c 0 rfl (by decide)) da_nil)) de_int (nomark _))))) (db_one (ds_ret de_bl)) db_nil)
    (db_one (ds_ret (de_and (de_fn c (h_is_from_to.up (by decide)) 3 rfl (da_cons (de_ix c.roomH (de_var c 0 rfl (by decide)) de_int (fun _ _ => rfl)) (da_cons de_int (da_cons (q_MOST_JOINT T c 4 rfl) da_nil)))) (de_one (de_fn c (h_is_from_to.up (by decide)) 3 rfl (da_cons (de_ix c.roomH (de_var c 0 rfl (by decide)) de_int (fun _ _ => rfl)) (da_cons (de_ix c.roomH (de_var c 0 rfl (by decide)) de_int (fun _ _ => rfl)) (da_cons (q_MOST_JOINT T c 4 rfl) da_nil)))))))))
theorem h_are_joints {M : Md} (T : Hs M) (h_is_from_to : Has M false 2 "is_from_to" ["thing", "least", "most"] m_is_from_to) (F : TopFn M "are_joints" s_are_joints ["thing"]) : Has M false 3 "are_joints" ["thing"] m_are_joints := has_of F sc_are_joints t_are_joints rfl rfl (fun X c => b_are_joints T h_is_from_to c)
abbrev s_need_joints : Stmt := topS 19
def B_need_joints : Tb := ⟨["joints"], [0], [0], [0], ["are_joints", "NoJoints"], [], true, false, none⟩
theorem sc_need_joints : FnScope B_need_joints.N ["joints"] (defScope s_need_joints) := ⟨rfl, rfl, rfl, by decide +kernel, rfl, by decide +kernel, by decide +kernel⟩
theorem t_need_joints : fnT B_need_joints (defScope s_need_joints) = true := by decide +kernel
noncomputable def d_need_joints : En → Sto → SR :=
    (sIf (tNot1 (tTru (eCall m_are_joints (aCons (eVar 0) aNil)))) sNo sNil)
noncomputable def m_need_joints : List Wv → Sto → Rs Wv := mkF 1 1 d_need_joints
theorem b_need_joints {M : Md} {X : Cx} (T : Hs M) (h_are_joints : Has M false 3 "are_joints" ["thing"] m_are_joints) (c : Cxt M X B_need_joints 3) : DB X (defBody s_need_joints) d_need_joints :=
    (db_one (ds_if (dt_not (dt_val (de_fn c (h_are_joints.up (by decide)) 0 rfl (da_cons (de_var c 0 rfl (by decide)) da_nil)))) (db_one ds_no) db_nil))
theorem h_need_joints {M : Md} (T : Hs M) (h_are_joints : Has M false 3 "are_joints" ["thing"] m_are_joints) (F : TopFn M "need_joints" s_need_joints ["joints"]) : Has M false 4 "need_joints" ["joints"] m_need_joints := has_of F sc_need_joints t_need_joints rfl rfl (fun X c => b_need_joints T h_are_joints c)
abbrev s_need_some : Stmt := topS 36
def B_need_some : Tb := ⟨["longs", "spans", "joints"], [0, 1, 2], [0, 1, 2], [0, 1, 2], ["need_longs", "need_spans", "need_joints"], [], true, false, none⟩
theorem sc_need_some : FnScope B_need_some.N ["longs", "spans", "joints"] (defScope s_need_some) := ⟨rfl, rfl, rfl, by decide +kernel, rfl, by decide +kernel, by decide +kernel⟩
theorem t_need_some : fnT B_need_some (defScope s_need_some) = true := by decide +kernel
noncomputable def d_need_some : En → Sto → SR :=
    (sSeq (sExp (eCall m_need_longs (aCons (eVar 0) aNil)))
    (sSeq (sExp (eCall m_need_spans (aCons (eVar 1) aNil)))
    (sExp (eCall m_need_joints (aCons (eVar 2) aNil)))))
noncomputable def m_need_some : List Wv → Sto → Rs Wv := mkF 3 3 d_need_some
theorem b_need_some {M : Md} {X : Cx} (T : Hs M) (h_need_joints : Has M false 4 "need_joints" ["joints"] m_need_joints) (h_need_longs : Has M false 4 "need_longs" ["longs"] m_need_longs) (h_need_spans : Has M false 4 "need_spans" ["spans"] m_need_spans) (c : Cxt M X B_need_some 4) : DB X (defBody s_need_some) d_need_some :=
    (db_cons (ds_exp (de_fn c (h_need_longs.up (by decide)) 0 rfl (da_cons (de_var c 0 rfl (by decide)) da_nil)))
    (db_cons (ds_exp (de_fn c (h_need_spans.up (by decide)) 1 rfl (da_cons (de_var c 1 rfl (by decide)) da_nil)))
    (db_one (ds_exp (de_fn c (h_need_joints.up (by decide)) 2 rfl (da_cons (de_var c 2 rfl (by decide)) da_nil))))))
theorem h_need_some {M : Md} (T : Hs M) (h_need_joints : Has M false 4 "need_joints" ["joints"] m_need_joints) (h_need_longs : Has M false 4 "need_longs" ["longs"] m_need_longs) (h_need_spans : Has M false 4 "need_spans" ["spans"] m_need_spans) (F : TopFn M "need_some" s_need_some ["longs", "spans", "joints"]) : Has M false 5 "need_some" ["longs", "spans", "joints"] m_need_some := has_of F sc_need_some t_need_some rfl rfl (fun X c => b_need_some T h_need_joints h_need_longs h_need_spans c)
abbrev s_rest_of : Stmt := topS 21
def B_rest_of : Tb := ⟨["longs", "span"], [0, 1], [0, 1], [0, 1], ["sum"], [], true, false, none⟩
theorem sc_rest_of : FnScope B_rest_of.N ["longs", "span"] (defScope s_rest_of) := ⟨rfl, rfl, rfl, by decide +kernel, rfl, by decide +kernel, by decide +kernel⟩
theorem t_rest_of : fnT B_rest_of (defScope s_rest_of) = true := by decide +kernel
noncomputable def d_rest_of : En → Sto → SR :=
    (sRet (eOp2 subD (eVar 1) (eOpN sumF (aCons (eVar 0) aNil))))
noncomputable def m_rest_of : List Wv → Sto → Rs Wv := mkF 2 2 d_rest_of
theorem b_rest_of {M : Md} {X : Cx} (T : Hs M)  (c : Cxt M X B_rest_of 0) : DB X (defBody s_rest_of) d_rest_of :=
    (db_one (ds_ret (de_bin o_sub (de_var c 1 rfl (by decide)) (de_callB (id := "sum") c (c_sum c.calm) 0 rfl T.z_sum (by decide +kernel) (da_cons (de_var c 0 rfl (by decide)) da_nil)))))
theorem h_rest_of {M : Md} (T : Hs M)  (F : TopFn M "rest_of" s_rest_of ["longs", "span"]) : Has M false 1 "rest_of" ["longs", "span"] m_rest_of := has_of F sc_rest_of t_rest_of rfl rfl (fun X c => b_rest_of T  c)
abbrev s_most_off : Stmt := topS 30
def B_most_off : Tb := ⟨["longs", "many", ".0", "long"], [0, 1], [0, 1], [0, 1], ["sum", "sorted"], [], true, false, none⟩
theorem sc_most_off : FnScope B_most_off.N ["longs", "many"] (defScope s_most_off) := ⟨rfl, rfl, rfl, by decide +kernel, rfl, by decide +kernel, by decide +kernel⟩
theorem t_most_off : fnT B_most_off (defScope s_most_off) = true := by decide +kernel
noncomputable def d_most_off : En → Sto → SR :=
    (sRet (eOpN sumF (aCons (eSlice (eOpK srtKF (aCons (eLc (cSeq (eVar 0)) (gN 3) tYs (eOp2 subD (eVar 3) (eK (.int 1))) [2, 3]) aNil) (aCons (eK (.bool true)) aNil)) pNo (pSome (eVar 1))) aNil)))
noncomputable def m_most_off : List Wv → Sto → Rs Wv := mkF 2 4 d_most_off
theorem b_most_off {M : Md} {X : Cx} (T : Hs M)  (c : Cxt M X B_most_off 0) : DB X (defBody s_most_off) d_most_off :=
    (db_one (ds_ret (de_callB (id := "sum") c (c_sum c.calm) 0 rfl T.z_sum (by decide +kernel) (da_cons (de_slice (de_callK (id := "sorted") c (c_sortedR c.roomH) 1 rfl T.z_sorted (by decide +kernel) (da_cons (de_lc c (lc_ok c [(".0", 2), ("long", 3)] [2, 3] [2, 3] [] [] (by decide +kernel) (di_seq (de_var c 0 rfl (by decide))) (by decide) (fun _ c4 => (dg_name c4 [2, 3] 3 rfl (by decide) (by decide))) (fun _ c4 => dts_nil) (fun _ c4 => (de_bin o_sub (de_var c4 3 rfl (by decide)) de_int)))) da_nil) (dk_cons de_bl dk_nil)) do_no (do_some (de_var c 1 rfl (by decide)))) da_nil))))
theorem h_most_off {M : Md} (T : Hs M)  (F : TopFn M "most_off" s_most_off ["longs", "many"]) : Has M false 1 "most_off" ["longs", "many"] m_most_off := has_of F sc_most_off t_most_off rfl rfl (fun X c => b_most_off T  c)
abbrev s_cut_by : Stmt := topS 31
def B_cut_by : Tb := ⟨["longs", "span", "joints", "many", "rest", "off", "cuts", "found", "k", "long", "here"], [0, 1, 2, 3, 4, 5, 6, 7, 8, 9, 10], [0, 1, 2, 3, 4, 5, 6, 7, 8, 9, 10], [0, 1, 2, 3, 4, 5, 6, 7, 8, 9, 10], ["len", "rest_of", "max", "most_off", "enumerate", "tuple"], [], true, false, none⟩
theorem sc_cut_by : FnScope B_cut_by.N ["longs", "span", "joints"] (defScope s_cut_by) := ⟨rfl, rfl, rfl, by decide +kernel, rfl, by decide +kernel, by decide +kernel⟩
theorem t_cut_by : fnT B_cut_by (defScope s_cut_by) = true := by decide +kernel
noncomputable def d_cut_by_l1 : En → Sto → SR :=
    (sWp [8, 9, 10] (sIf (tBl (eOp2 leD (eVar 5) (eCall m_most_off (aCons (eSlice (eVar 0) (pSome (eOp2 addD (eVar 8) (eK (.int 1)))) pNo) (aCons (eVar 6) aNil))))) (sExp (eM appW (eVar 7) (aCons (eVar 9) aNil))) (sSeq (sSet 6 (eOp2 subD (eVar 6) (eK (.int 1))))
    (sSeq (sSet 10 (eOpN max2F (aCons (eK (.int 1)) (aCons (eOp2 subD (eVar 5) (eCall m_most_off (aCons (eSlice (eVar 0) (pSome (eOp2 addD (eVar 8) (eK (.int 1)))) pNo) (aCons (eVar 6) aNil)))) aNil))))
    (sSeq (sExp (eM appW (eVar 7) (aCons (eOp2 subD (eVar 9) (eVar 10)) aNil)))
    (sSet 5 (eOp2 subD (eVar 5) (eVar 10))))))))
noncomputable def d_cut_by : En → Sto → SR :=
    (sSeq (sSet 3 (eOp2 subD (eOpN lenF (aCons (eVar 0) aNil)) (eK (.int 1))))
    (sSeq (sSet 4 (eCall m_rest_of (aCons (eVar 0) (aCons (eVar 1) aNil))))
    (sSeq (sIf (tBl (eOp2 gtD (eVar 4) (eOp2 mulD (eVar 3) (eOp2 ixD (eVar 2) (eK (.int 1)))))) (sRet (eK .none)) sNil)
    (sSeq (sSet 5 (eOpN max2F (aCons (eK (.int 0)) (aCons (eOp2 subD (eOp2 mulD (eVar 3) (eOp2 ixD (eVar 2) (eK (.int 0)))) (eVar 4)) aNil))))
    (sSeq (sIf (tBl (eOp2 ltD (eCall m_most_off (aCons (eVar 0) (aCons (eOpN lenF (aCons (eVar 0) aNil)) aNil))) (eVar 5))) (sRet (eK .none)) sNil)
    (sSeq (sSet 6 (eK (.int 0)))
    (sSeq (sWh 100000 (tBl (eOp2 ltD (eCall m_most_off (aCons (eVar 0) (aCons (eVar 6) aNil))) (eVar 5))) (sSet 6 (eOp2 addD (eVar 6) (eK (.int 1)))))
    (sSeq (sSet 7 (eNewL aNil))
    (sSeq (sFor (cEnum (aCons (eVar 0) aNil)) (gTp (gCn (gN 8) (gCn (gN 9) gNl))) d_cut_by_l1)
    (sRet (eOpN tupF (aCons (eVar 7) aNil))))))))))))
noncomputable def m_cut_by : List Wv → Sto → Rs Wv := mkF 3 11 d_cut_by
theorem b_cut_by {M : Md} {X : Cx} (T : Hs M) (h_most_off : Has M false 1 "most_off" ["longs", "many"] m_most_off) (h_rest_of : Has M false 1 "rest_of" ["longs", "span"] m_rest_of) (c : Cxt M X B_cut_by 1) : DB X (defBody s_cut_by) d_cut_by :=
    (db_cons (ds_set c 3 rfl (by decide) (de_bin o_sub (de_callB (id := "len") c c_len 0 rfl T.z_len (by decide +kernel) (da_cons (de_var c 0 rfl (by decide)) da_nil)) de_int))
    (db_cons (ds_set c 4 rfl (by decide) (de_fn c (h_rest_of.up (by decide)) 1 rfl (da_cons (de_var c 0 rfl (by decide)) (da_cons (de_var c 1 rfl (by decide)) da_nil))))
    (db_cons (ds_if (dt_cmp (o_gt c.roomH) (de_var c 4 rfl (by decide)) (de_bin o_mul (de_var c 3 rfl (by decide)) (de_ix c.roomH (de_var c 2 rfl (by decide)) de_int (fun _ _ => rfl))) (nomark _)) (db_one (ds_ret de_non)) db_nil)
    (db_cons (ds_set c 5 rfl (by decide) (de_callB (id := "max") c (c_max2 c.calm) 2 rfl T.z_max (by decide +kernel) (da_cons de_int (da_cons (de_bin o_sub (de_bin o_mul (de_var c 3 rfl (by decide)) (de_ix c.roomH (de_var c 2 rfl (by decide)) de_int (fun _ _ => rfl))) (de_var c 4 rfl (by decide))) da_nil))))
    (db_cons (ds_if (dt_cmp (o_lt c.roomH) (de_fn c (h_most_off.up (by decide)) 3 rfl (da_cons (de_var c 0 rfl (by decide)) (da_cons (de_callB (id := "len") c c_len 0 rfl T.z_len (by decide +kernel) (da_cons (de_var c 0 rfl (by decide)) da_nil)) da_nil))) (de_var c 5 rfl (by decide)) (nomark _)) (db_one (ds_ret de_non)) db_nil)
    (db_cons (ds_set c 6 rfl (by decide) de_int)
    (db_cons (ds_wh c 100000 (dt_cmp (o_lt c.roomH) (de_fn c (h_most_off.up (by decide)) 3 rfl (da_cons (de_var c 0 rfl (by decide)) (da_cons (de_var c 6 rfl (by decide)) da_nil))) (de_var c 5 rfl (by decide)) (nomark _)) (db_one (ds_set c 6 rfl (by decide) (de_bin o_add (de_var c 6 rfl (by decide)) de_int))))
    (db_cons (ds_set c 7 rfl (by decide) (de_newl da_nil))
    (db_cons (ds_for c [8, 9] (di_enum c 4 rfl T.z_enumerate (da_cons (de_var c 0 rfl (by decide)) da_nil)) (dg_tup c (dgs_cons (dg_name c [8, 9] 8 rfl (by decide) (by decide)) (dgs_cons (dg_name c [8, 9] 9 rfl (by decide) (by decide)) (dgs_nil [8, 9]))) (asks_cons (asks_cons asks_nil)))
    (db_wp [8, 9, 10] (db_one (ds_if (dt_cmp (o_le c.roomH) (de_var c 5 rfl (by decide)) (de_fn c (h_most_off.up (by decide)) 3 rfl (da_cons (de_slice (de_var c 0 rfl (by decide)) (do_some (de_bin o_add (de_var c 8 rfl (by decide)) de_int)) do_no) (da_cons (de_var c 6 rfl (by decide)) da_nil))) (nomark _)) (db_one (ds_exp (de_append (de_var c 7 rfl (by decide)) (da_cons (de_var c 9 rfl (by decide)) da_nil)))) (db_cons (ds_set c 6 rfl (by decide) (de_bin o_sub (de_var c 6 rfl (by decide)) de_int))
    (db_cons (ds_set c 10 rfl (by decide) (de_callB (id := "max") c (c_max2 c.calm) 2 rfl T.z_max (by decide +kernel) (da_cons de_int (da_cons (de_bin o_sub (de_var c 5 rfl (by decide)) (de_fn c (h_most_off.up (by decide)) 3 rfl (da_cons (de_slice (de_var c 0 rfl (by decide)) (do_some (de_bin o_add (de_var c 8 rfl (by decide)) de_int)) do_no) (da_cons (de_var c 6 rfl (by decide)) da_nil)))) da_nil))))
    (db_cons (ds_exp (de_append (de_var c 7 rfl (by decide)) (da_cons (de_bin o_sub (de_var c 9 rfl (by decide)) (de_var c 10 rfl (by decide))) da_nil)))
    (db_one (ds_set c 5 rfl (by decide) (de_bin o_sub (de_var c 5 rfl (by decide)) (de_var c 10 rfl (by decide))))))))))))
    (db_one (ds_ret (de_callT (T := "tuple") c c_tup 5 rfl T.z_tuple (by decide +kernel) (da_cons (de_var c 7 rfl (by decide)) da_nil)))))))))))))
theorem h_cut_by {M : Md} (T : Hs M) (h_most_off : Has M false 1 "most_off" ["longs", "many"] m_most_off) (h_rest_of : Has M false 1 "rest_of" ["longs", "span"] m_rest_of) (F : TopFn M "cut_by" s_cut_by ["longs", "span", "joints"]) : Has M false 2 "cut_by" ["longs", "span", "joints"] m_cut_by := has_of F sc_cut_by t_cut_by rfl rfl (fun X c => b_cut_by T h_most_off h_rest_of c)
abbrev s_cuts_in : Stmt := topS 37
def B_cuts_in : Tb := ⟨["longs", "span", "joints", "found", ".0", "long", "here"], [0, 1, 2, 3], [0, 1, 2, 3], [0, 1, 2, 3], ["cut_by", "len", "zip"], [], true, false, none⟩
theorem sc_cuts_in : FnScope B_cuts_in.N ["longs", "span", "joints"] (defScope s_cuts_in) := ⟨rfl, rfl, rfl, by decide +kernel, rfl, by decide +kernel, by decide +kernel⟩
theorem t_cuts_in : fnT B_cuts_in (defScope s_cuts_in) = true := by decide +kernel
noncomputable def d_cuts_in : En → Sto → SR :=
    (sSeq (sSet 3 (eCall m_cut_by (aCons (eVar 0) (aCons (eVar 1) (aCons (eVar 2) aNil)))))
    (sSeq (sIf (tBl (eOp2 isND (eVar 3) (eK .none))) (sRet (eK .none)) sNil)
    (sRet (eOpN lenF (aCons (eLc (cZip2 (aCons (eVar 0) (aCons (eVar 3) aNil))) (gTp (gCn (gN 5) (gCn (gN 6) gNl))) (tBl (eOp2 neD (eVar 5) (eVar 6))) (eK (.int 1)) [4, 5, 6]) aNil)))))
noncomputable def m_cuts_in : List Wv → Sto → Rs Wv := mkF 3 7 d_cuts_in
theorem b_cuts_in {M : Md} {X : Cx} (T : Hs M) (h_cut_by : Has M false 2 "cut_by" ["longs", "span", "joints"] m_cut_by) (c : Cxt M X B_cuts_in 2) : DB X (defBody s_cuts_in) d_cuts_in :=
    (db_cons (ds_set c 3 rfl (by decide) (de_fn c (h_cut_by.up (by decide)) 0 rfl (da_cons (de_var c 0 rfl (by decide)) (da_cons (de_var c 1 rfl (by decide)) (da_cons (de_var c 2 rfl (by decide)) da_nil)))))
    (db_cons (ds_if (dt_cmp o_isN (de_var c 3 rfl (by decide)) de_non (nomark _)) (db_one (ds_ret de_non)) db_nil)
    (db_one (ds_ret (de_callB (id := "len") c c_len 1 rfl T.z_len (by decide +kernel) (da_cons (de_lc c (lc_ok c [(".0", 4), ("long", 5), ("here", 6)] [4, 5, 6] [4, 5, 6] [] [] (by decide +kernel) (di_zip2 c 2 rfl T.z_zip (da_cons (de_var c 0 rfl (by decide)) (da_cons (de_var c 3 rfl (by decide)) da_nil))) (by decide) (fun _ c5 => (dg_tup c5 (dgs_cons (dg_name c5 [4, 5, 6] 5 rfl (by decide) (by decide)) (dgs_cons (dg_name c5 [4, 5, 6] 6 rfl (by decide) (by decide)) (dgs_nil [4, 5, 6]))) (asks_cons (asks_cons asks_nil)))) (fun _ c5 => (dts_one (dt_cmp (o_ne c5.roomH) (de_var c5 5 rfl (by decide)) (de_var c5 6 rfl (by decide)) (nomark _)))) (fun _ c5 => de_int))) da_nil))))))
theorem h_cuts_in {M : Md} (T : Hs M) (h_cut_by : Has M false 2 "cut_by" ["longs", "span", "joints"] m_cut_by) (F : TopFn M "cuts_in" s_cuts_in ["longs", "span", "joints"]) : Has M false 3 "cuts_in" ["longs", "span", "joints"] m_cuts_in := has_of F sc_cuts_in t_cuts_in rfl rfl (fun X c => b_cuts_in T h_cut_by c)
abbrev s_fit : Stmt := topS 22
def B_fit : Tb := ⟨["longs", "span", "joints", "many"], [0, 1, 2, 3], [0, 1, 2, 3], [0, 1, 2, 3], ["len", "rest_of"], [], true, false, none⟩
theorem sc_fit : FnScope B_fit.N ["longs", "span", "joints"] (defScope s_fit) := ⟨rfl, rfl, rfl, by decide +kernel, rfl, by decide +kernel, by decide +kernel⟩
theorem t_fit : fnT B_fit (defScope s_fit) = true := by decide +kernel
noncomputable def d_fit : En → Sto → SR :=
    (sSeq (sSet 3 (eOp2 subD (eOpN lenF (aCons (eVar 0) aNil)) (eK (.int 1))))
    (sRet (eChain leD leD (eOp2 mulD (eVar 3) (eOp2 ixD (eVar 2) (eK (.int 0)))) (eCall m_rest_of (aCons (eVar 0) (aCons (eVar 1) aNil))) (eOp2 mulD (eVar 3) (eOp2 ixD (eVar 2) (eK (.int 1)))))))
noncomputable def m_fit : List Wv → Sto → Rs Wv := mkF 3 4 d_fit
theorem b_fit {M : Md} {X : Cx} (T : Hs M) (h_rest_of : Has M false 1 "rest_of" ["longs", "span"] m_rest_of) (c : Cxt M X B_fit 1) : DB X (defBody s_fit) d_fit :=
    (db_cons (ds_set c 3 rfl (by decide) (de_bin o_sub (de_callB (id := "len") c c_len 0 rfl T.z_len (by decide +kernel) (da_cons (de_var c 0 rfl (by decide)) da_nil)) de_int))
    (db_one (ds_ret (de_chain (o_le c.roomH) (o_le c.roomH) (de_bin o_mul (de_var c 3 rfl (by decide)) (de_ix c.roomH (de_var c 2 rfl (by decide)) de_int (fun _ _ => rfl))) (de_fn c (h_rest_of.up (by decide)) 1 rfl (da_cons (de_var c 0 rfl (by decide)) (da_cons (de_var c 1 rfl (by decide)) da_nil))) (de_bin o_mul (de_var c 3 rfl (by decide)) (de_ix c.roomH (de_var c 2 rfl (by decide)) de_int (fun _ _ => rfl)))))))
theorem h_fit {M : Md} (T : Hs M) (h_rest_of : Has M false 1 "rest_of" ["longs", "span"] m_rest_of) (F : TopFn M "fit" s_fit ["longs", "span", "joints"]) : Has M false 2 "fit" ["longs", "span", "joints"] m_fit := has_of F sc_fit t_fit rfl rfl (fun X c => b_fit T h_rest_of c)
abbrev s_ways_on : Stmt := topS 38
def B_ways_on : Tb := ⟨["longs", "spans", "joints", "at", "done", "clean", "found", "many", "some", "cuts"], [0, 1, 2, 3, 4, 5, 6, 7, 8, 9], [0, 1, 2, 3, 4, 5, 6, 7, 8, 9], [0, 1, 2, 3, 4, 5, 6, 7, 8, 9], ["range", "len", "fit", "cuts_in"], [], true, false, none⟩
theorem sc_ways_on : FnScope B_ways_on.N ["longs", "spans", "joints", "at", "done", "clean"] (defScope s_ways_on) := ⟨rfl, rfl, rfl, by decide +kernel, rfl, by decide +kernel, by decide +kernel⟩
theorem t_ways_on : fnT B_ways_on (defScope s_ways_on) = true := by decide +kernel
noncomputable def d_ways_on_l1 : En → Sto → SR :=
    (sWp [7, 8, 9] (sSeq (sSet 8 (eSlice (eVar 0) (pSome (eVar 4)) (pSome (eOp2 addD (eVar 4) (eVar 7)))))
    (sSeq (sIf (tTru (eVar 5)) (sSet 9 (eIf (tTru (eCall m_fit (aCons (eVar 8) (aCons (eOp2 ixD (eVar 1) (eVar 3)) (aCons (eVar 2) aNil))))) (eK (.int 0)) (eK .none))) (sSet 9 (eCall m_cuts_in (aCons (eVar 8) (aCons (eOp2 ixD (eVar 1) (eVar 3)) (aCons (eVar 2) aNil))))))
    (sIf (tBl (eOp2 ntND (eVar 9) (eK .none))) (sExp (eM appW (eVar 6) (aCons (eTup (aCons (eVar 7) (aCons (eVar 9) aNil))) aNil))) sNil))))
noncomputable def d_ways_on : En → Sto → SR :=
    (sSeq (sSet 6 (eNewL aNil))
    (sSeq (sFor (cRg2 (aCons (eK (.int 1)) (aCons (eOp2 addD (eOp2 subD (eOpN lenF (aCons (eVar 0) aNil)) (eVar 4)) (eK (.int 1))) aNil))) (gN 7) d_ways_on_l1)
    (sRetF (eVar 6))))
noncomputable def m_ways_on : List Wv → Sto → Rs Wv := mkF 6 10 d_ways_on
theorem b_ways_on {M : Md} {X : Cx} (T : Hs M) (h_cuts_in : Has M false 3 "cuts_in" ["longs", "span", "joints"] m_cuts_in) (h_fit : Has M false 2 "fit" ["longs", "span", "joints"] m_fit) (c : Cxt M X B_ways_on 3) : DB X (defBody s_ways_on) d_ways_on :=
    (db_cons (ds_set c 6 rfl (by decide) (de_newl da_nil))
    (db_cons (ds_for c [7] (di_range2 c 0 rfl T.z_range (da_cons de_int (da_cons (de_bin o_add (de_bin o_sub (de_callB (id := "len") c c_len 1 rfl T.z_len (by decide +kernel) (da_cons (de_var c 0 rfl (by decide)) da_nil)) (de_var c 4 rfl (by decide))) de_int) da_nil))) (dg_name c [7] 7 rfl (by decide) (by decide))
    (db_wp [7, 8, 9] (db_cons (ds_set c 8 rfl (by decide) (de_slice (de_var c 0 rfl (by decide)) (do_some (de_var c 4 rfl (by decide))) (do_some (de_bin o_add (de_var c 4 rfl (by decide)) (de_var c 7 rfl (by decide))))))
    (db_cons (ds_if (dt_val (de_var c 5 rfl (by decide))) (db_one (ds_set c 9 rfl (by decide) (de_if (dt_val (de_fn c (h_fit.up (by decide)) 2 rfl (da_cons (de_var c 8 rfl (by decide)) (da_cons (de_ix c.roomH (de_var c 1 rfl (by decide)) (de_var c 3 rfl (by decide)) (fun _ _ => rfl)) (da_cons (de_var c 2 rfl (by decide)) da_nil))))) de_int de_non))) (db_one (ds_set c 9 rfl (by decide) (de_fn c (h_cuts_in.up (by decide)) 3 rfl (da_cons (de_var c 8 rfl (by decide)) (da_cons (de_ix c.roomH (de_var c 1 rfl (by decide)) (de_var c 3 rfl (by decide)) (fun _ _ => rfl)) (da_cons (de_var c 2 rfl (by decide)) da_nil)))))))
    (db_one (ds_if (dt_cmp o_ntN (de_var c 9 rfl (by decide)) de_non (nomark _)) (db_one (ds_exp (de_append (de_var c 6 rfl (by decide)) (da_cons (de_tup (da_cons (de_var c 7 rfl (by decide)) (da_cons (de_var c 9 rfl (by decide)) da_nil))) da_nil)))) db_nil))))))
    (db_one (ds_retf (de_var c 6 rfl (by decide))))))
theorem h_ways_on {M : Md} (T : Hs M) (h_cuts_in : Has M false 3 "cuts_in" ["longs", "span", "joints"] m_cuts_in) (h_fit : Has M false 2 "fit" ["longs", "span", "joints"] m_fit) (F : TopFn M "ways_on" s_ways_on ["longs", "spans", "joints", "at", "done", "clean"]) : Has M false 4 "ways_on" ["longs", "spans", "joints", "at", "done", "clean"] m_ways_on := has_of F sc_ways_on t_ways_on rfl rfl (fun X c => b_ways_on T h_cuts_in h_fit c)
abbrev s_levels_by : Stmt := topS 42
def B_levels_by : Tb := ⟨["longs", "spans", "joints", "found", "at", "here", "done", "many", "cuts"], [0, 1, 2, 3, 4, 5, 6, 7, 8], [0, 1, 2, 3, 4, 5, 6, 7, 8], [0, 1, 2, 3, 4, 5, 6, 7, 8], ["range", "len", "ways_on", "tuple", "sorted", "list"], [], true, false, none⟩
theorem sc_levels_by : FnScope B_levels_by.N ["longs", "spans", "joints"] (defScope s_levels_by) := ⟨rfl, rfl, rfl, by decide +kernel, rfl, by decide +kernel, by decide +kernel⟩
theorem t_levels_by : fnT B_levels_by (defScope s_levels_by) = true := by decide +kernel
noncomputable def d_levels_by_l1 : En → Sto → SR :=
    (sWp [7, 8] (sIx (eVar 5) (eOp2 addD (eVar 6) (eVar 7)) (eK (.bool true))))
noncomputable def d_levels_by_l2 : En → Sto → SR :=
    (sWp [6, 7, 8] (sFor (cSeq (eCall m_ways_on (aCons (eVar 0) (aCons (eVar 1) (aCons (eVar 2) (aCons (eVar 4) (aCons (eVar 6) (aCons (eK (.bool true)) aNil)))))))) (gTp (gCn (gN 7) (gCn (gN 8) gNl))) d_levels_by_l1))
noncomputable def d_levels_by_l3 : En → Sto → SR :=
    (sWp [4, 5, 6, 7, 8] (sSeq (sSet 5 eNewD)
    (sSeq (sFor (cSeq (eOp2 ixD (eVar 3) (eOp1 negD (eK (.int 1))))) (gN 6) d_levels_by_l2)
    (sExp (eM appW (eVar 3) (aCons (eOpN tupF (aCons (eOpN (srtF false) (aCons (eOpN lsdF (aCons (eVar 5) aNil)) aNil)) aNil)) aNil))))))
noncomputable def d_levels_by : En → Sto → SR :=
    (sSeq (sSet 3 (eNewL (aCons (eTup (aCons (eK (.int 0)) aNil)) aNil)))
    (sSeq (sFor (cRg1 (aCons (eOpN lenF (aCons (eVar 1) aNil)) aNil)) (gN 4) d_levels_by_l3)
    (sRet (eVar 3))))
noncomputable def m_levels_by : List Wv → Sto → Rs Wv := mkF 3 9 d_levels_by
theorem b_levels_by {M : Md} {X : Cx} (T : Hs M) (h_ways_on : Has M false 4 "ways_on" ["longs", "spans", "joints", "at", "done", "clean"] m_ways_on) (c : Cxt M X B_levels_by 4) : DB X (defBody s_levels_by) d_levels_by :=
    (db_cons (ds_set c 3 rfl (by decide) (de_newl (da_cons (de_tup (da_cons de_int da_nil)) da_nil)))
    (db_cons (ds_for c [4] (di_range1 c 0 rfl T.z_range (da_cons (de_callB (id := "len") c c_len 1 rfl T.z_len (by decide +kernel) (da_cons (de_var c 1 rfl (by decide)) da_nil)) da_nil)) (dg_name c [4] 4 rfl (by decide) (by decide))
    (db_wp [4, 5, 6, 7, 8] (db_cons (ds_set c 5 rfl (by decide) de_newd)
    (db_cons (ds_for c [6] (di_seq (de_ix c.roomH (de_var c 3 rfl (by decide)) (de_un o_neg de_int) (fun _ _ => rfl))) (dg_name c [6] 6 rfl (by decide) (by decide))
    (db_wp [6, 7, 8] (db_one (ds_for c [7, 8] (di_seq (de_fn c (h_ways_on.up (by decide)) 2 rfl (da_cons (de_var c 0 rfl (by decide)) (da_cons (de_var c 1 rfl (by decide)) (da_cons (de_var c 2 rfl (by decide)) (da_cons (de_var c 4 rfl (by decide)) (da_cons (de_var c 6 rfl (by decide)) (da_cons de_bl da_nil)))))))) (dg_tup c (dgs_cons (dg_name c [7, 8] 7 rfl (by decide) (by decide)) (dgs_cons (dg_name c [7, 8] 8 rfl (by decide) (by decide)) (dgs_nil [7, 8]))) (asks_cons (asks_cons asks_nil)))
    (db_wp [7, 8] (db_one (ds_setix c (de_var c 5 rfl (by decide)) (de_bin o_add (de_var c 6 rfl (by decide)) (de_var c 7 rfl (by decide))) de_bl)))))))
    (db_one (ds_exp (de_append (de_var c 3 rfl (by decide)) (da_cons (de_callT (T := "tuple") c c_tup 3 rfl T.z_tuple (by decide +kernel) (da_cons (de_callB (id := "sorted") c (c_sorted c.roomH) 4 rfl T.z_sorted (by decide +kernel) (da_cons (de_callT (T := "list") c (c_lsd c.calm) 5 rfl T.z_list (by decide +kernel) (da_cons (de_var c 5 rfl (by decide)) da_nil)) da_nil)) da_nil)) da_nil))))))))
    (db_one (ds_ret (de_var c 3 rfl (by decide))))))
theorem h_levels_by {M : Md} (T : Hs M) (h_ways_on : Has M false 4 "ways_on" ["longs", "spans", "joints", "at", "done", "clean"] m_ways_on) (F : TopFn M "levels_by" s_levels_by ["longs", "spans", "joints"]) : Has M false 5 "levels_by" ["longs", "spans", "joints"] m_levels_by := has_of F sc_levels_by t_levels_by rfl rfl (fun X c => b_levels_by T h_ways_on c)
abbrev s_levels : Stmt := topS 43
def B_levels : Tb := ⟨["longs", "spans", "joints"], [0, 1, 2], [0, 1, 2], [0, 1, 2], ["need_some", "levels_by"], [], true, false, none⟩
theorem sc_levels : FnScope B_levels.N ["longs", "spans", "joints"] (defScope s_levels) := ⟨rfl, rfl, rfl, by decide +kernel, rfl, by decide +kernel, by decide +kernel⟩
theorem t_levels : fnT B_levels (defScope s_levels) = true := by decide +kernel
noncomputable def d_levels : En → Sto → SR :=
    (sSeq (sExp (eCall m_need_some (aCons (eVar 0) (aCons (eVar 1) (aCons (eVar 2) aNil)))))
    (sRet (eCall m_levels_by (aCons (eVar 0) (aCons (eVar 1) (aCons (eVar 2) aNil))))))
noncomputable def m_levels : List Wv → Sto → Rs Wv := mkF 3 3 d_levels
theorem b_levels {M : Md} {X : Cx} (T : Hs M) (h_levels_by : Has M false 5 "levels_by" ["longs", "spans", "joints"] m_levels_by) (h_need_some : Has M false 5 "need_some" ["longs", "spans", "joints"] m_need_some) (c : Cxt M X B_levels 5) : DB X (defBody s_levels) d_levels :=
    (db_cons (ds_exp (de_fn c (h_need_some.up (by decide)) 0 rfl (da_cons (de_var c 0 rfl (by decide)) (da_cons (de_var c 1 rfl (by decide)) (da_cons (de_var c 2 rfl (by decide)) da_nil)))))
    (db_one (ds_ret (de_fn c (h_levels_by.up (by decide)) 1 rfl (da_cons (de_var c 0 rfl (by decide)) (da_cons (de_var c 1 rfl (by decide)) (da_cons (de_var c 2 rfl (by decide)) da_nil)))))))
theorem h_levels {M : Md} (T : Hs M) (h_levels_by : Has M false 5 "levels_by" ["longs", "spans", "joints"] m_levels_by) (h_need_some : Has M false 5 "need_some" ["longs", "spans", "joints"] m_need_some) (F : TopFn M "levels" s_levels ["longs", "spans", "joints"]) : Has M false 6 "levels" ["longs", "spans", "joints"] m_levels := has_of F sc_levels t_levels rfl rfl (fun X c => b_levels T h_levels_by h_need_some c)
abbrev s_need_bound : Stmt := topS 47
def B_need_bound : Tb := ⟨["longs", "spans", "joints", "k"], [0, 1, 2, 3], [0, 1, 2, 3], [0, 1, 2, 3], ["need_some", "is_whole", "NoNumber"], [], true, false, none⟩
theorem sc_need_bound : FnScope B_need_bound.N ["longs", "spans", "joints", "k"] (defScope s_need_bound) := ⟨rfl, rfl, rfl, by decide +kernel, rfl, by decide +kernel, by decide +kernel⟩
theorem t_need_bound : fnT B_need_bound (defScope s_need_bound) = true := by decide +kernel
noncomputable def d_need_bound : En → Sto → SR :=
    (sSeq (sExp (eCall m_need_some (aCons (eVar 0) (aCons (eVar 1) (aCons (eVar 2) aNil)))))
    (sIf (tNot1 (tTru (eCall m_is_whole (aCons (eVar 3) aNil)))) sNo sNil))
noncomputable def m_need_bound : List Wv → Sto → Rs Wv := mkF 4 4 d_need_bound
theorem b_need_bound {M : Md} {X : Cx} (T : Hs M) (h_is_whole : Has M false 1 "is_whole" ["thing"] m_is_whole) (h_need_some : Has M false 5 "need_some" ["longs", "spans", "joints"] m_need_some) (c : Cxt M X B_need_bound 5) : DB X (defBody s_need_bound) d_need_bound :=
    (db_cons (ds_exp (de_fn c (h_need_some.up (by decide)) 0 rfl (da_cons (de_var c 0 rfl (by decide)) (da_cons (de_var c 1 rfl (by decide)) (da_cons (de_var c 2 rfl (by decide)) da_nil)))))
    (db_one (ds_if (dt_not (dt_val (de_fn c (h_is_whole.up (by decide)) 1 rfl (da_cons (de_var c 3 rfl (by decide)) da_nil)))) (db_one ds_no) db_nil)))
theorem h_need_bound {M : Md} (T : Hs M) (h_is_whole : Has M false 1 "is_whole" ["thing"] m_is_whole) (h_need_some : Has M false 5 "need_some" ["longs", "spans", "joints"] m_need_some) (F : TopFn M "need_bound" s_need_bound ["longs", "spans", "joints", "k"]) : Has M false 6 "need_bound" ["longs", "spans", "joints", "k"] m_need_bound := has_of F sc_need_bound t_need_bound rfl rfl (fun X c => b_need_bound T h_is_whole h_need_some c)
abbrev s_is_mark_row : Stmt := topS 49
def B_is_mark_row : Tb := ⟨["thing", "many", ".0", "one"], [0, 1], [0, 1], [0, 1], ["isinstance", "tuple", "len", "all"], [], true, false, none⟩
theorem sc_is_mark_row : FnScope B_is_mark_row.N ["thing", "many"] (defScope s_is_mark_row) := ⟨rfl, rfl, rfl, by decide +kernel, rfl, by decide +kernel, by decide +kernel⟩
theorem t_is_mark_row : fnT B_is_mark_row (defScope s_is_mark_row) = true := by decide +kernel
noncomputable def d_is_mark_row : En → Sto → SR :=
    (sSeq (sIf (tOr2 (tNot1 (tTru (eOp1 (isaD "tuple") (eVar 0)))) (tBl (eOp2 neD (eOpN lenF (aCons (eVar 0) aNil)) (eVar 1)))) (sRet (eK (.bool false))) sNil)
    (sRet (eOpN allF (aCons (eLc (cSeq (eVar 0)) (gN 3) tYs (eOr2 (eOp2 isND (eVar 3) (eK .none)) (eCall m_is_whole (aCons (eVar 3) aNil))) [2, 3]) aNil))))
noncomputable def m_is_mark_row : List Wv → Sto → Rs Wv := mkF 2 4 d_is_mark_row
theorem b_is_mark_row {M : Md} {X : Cx} (T : Hs M) (h_is_whole : Has M false 1 "is_whole" ["thing"] m_is_whole) (c : Cxt M X B_is_mark_row 1) : DB X (defBody s_is_mark_row) d_is_mark_row :=
    (db_cons (ds_if (DW.dt (dw_or (dt_not (dt_val (de_isa c 0 1 rfl T.z_isinstance rfl T.z_tuple (by decide +kernel) (de_var c 0 rfl (by decide))))) (dw_or1 (dt_cmp (o_ne c.roomH) (de_callB (id := "len") c c_len 2 rfl T.z_len (by decide +kernel) (da_cons (de_var c 0 rfl (by decide)) da_nil)) (de_var c 1 rfl (by decide)) (nomark _))))) (db_one (ds_ret de_bl)) db_nil)
    (db_one (ds_ret (de_callB (id := "all") c (c_all c.calm) 3 rfl T.z_all (by decide +kernel) (da_cons (de_lc c (lc_ok c [(".0", 2), ("one", 3)] [2, 3] [2, 3] ["is_whole"] [] (by decide +kernel) (di_seq (de_var c 0 rfl (by decide))) (by decide) (fun _ c6 => (dg_name c6 [2, 3] 3 rfl (by decide) (by decide))) (fun _ c6 => dts_nil) (fun _ c6 => (de_or (de_cmp o_isN (de_var c6 3 rfl (by decide)) de_non (nomark _)) (de_one (de_fn c6 (h_is_whole.up (by decide)) 0 rfl (da_cons (de_var c6 3 rfl (by decide)) da_nil))))))) da_nil)))))
theorem h_is_mark_row {M : Md} (T : Hs M) (h_is_whole : Has M false 1 "is_whole" ["thing"] m_is_whole) (F : TopFn M "is_mark_row" s_is_mark_row ["thing", "many"]) : Has M false 2 "is_mark_row" ["thing", "many"] m_is_mark_row := has_of F sc_is_mark_row t_is_mark_row rfl rfl (fun X c => b_is_mark_row T h_is_whole c)
abbrev s_marks_hold : Stmt := topS 50
def B_marks_hold : Tb := ⟨["longs", "spans", "joints", "k", "thing", "at", "done", "mark", "many", "cuts", "later", ".0", "row"], [0, 1, 2, 3, 4, 5, 6, 7, 8, 9, 10], [0, 1, 2, 3, 4, 5, 6, 7, 8, 9, 10], [1, 2, 3, 4, 5, 6, 7, 8, 9, 10], ["need_bound", "isinstance", "tuple", "len", "all", "range", "enumerate", "ways_on"], ["longs"], true, false, none⟩
theorem sc_marks_hold : FnScope B_marks_hold.N ["longs", "spans", "joints", "k", "thing"] (defScope s_marks_hold) := ⟨rfl, rfl, rfl, by decide +kernel, rfl, by decide +kernel, by decide +kernel⟩
theorem t_marks_hold : fnT B_marks_hold (defScope s_marks_hold) = true := by decide +kernel
noncomputable def d_marks_hold_l1 : En → Sto → SR :=
    (sWp [8, 9, 10] (sSeq (sSet 10 (eOp2 ixD (eOp2 ixD (eVar 4) (eOp2 addD (eVar 5) (eK (.int 1)))) (eOp2 addD (eVar 6) (eVar 8))))
    (sIf (tOr2 (tBl (eOp2 isND (eVar 10) (eK .none))) (tBl (eOp2 gtD (eVar 10) (eOp2 addD (eVar 7) (eVar 9))))) (sRet (eK (.bool false))) sNil)))
noncomputable def d_marks_hold_l2 : En → Sto → SR :=
    (sWp [6, 7, 8, 9, 10] (sIf (tBl (eOp2 ntND (eVar 7) (eK .none))) (sFor (cSeq (eCall m_ways_on (aCons (eVar 0) (aCons (eVar 1) (aCons (eVar 2) (aCons (eVar 5) (aCons (eVar 6) (aCons (eK (.bool false)) aNil)))))))) (gTp (gCn (gN 8) (gCn (gN 9) gNl))) d_marks_hold_l1) sNil))
noncomputable def d_marks_hold_l3 : En → Sto → SR :=
    (sWp [5, 6, 7, 8, 9, 10] (sFor (cEnum (aCons (eOp2 ixD (eVar 4) (eVar 5)) aNil)) (gTp (gCn (gN 6) (gCn (gN 7) gNl))) d_marks_hold_l2))
noncomputable def d_marks_hold : En → Sto → SR :=
    (sSeq (sExp (eCall m_need_bound (aCons (eVar 0) (aCons (eVar 1) (aCons (eVar 2) (aCons (eVar 3) aNil))))))
    (sSeq (sIf (tOr2 (tNot1 (tTru (eOp1 (isaD "tuple") (eVar 4)))) (tBl (eOp2 neD (eOpN lenF (aCons (eVar 4) aNil)) (eOp2 addD (eOpN lenF (aCons (eVar 1) aNil)) (eK (.int 1)))))) (sRet (eK (.bool false))) sNil)
    (sSeq (sIf (tOr2 (tNot1 (tTru (eOpN allF (aCons (eLc (cSeq (eVar 4)) (gN 12) tYs (eCall m_is_mark_row (aCons (eVar 12) (aCons (eOp2 addD (eOpN lenF (aCons (eVar 0) aNil)) (eK (.int 1))) aNil))) [11, 12]) aNil)))) (tBl (eOp2 neD (eOp2 ixD (eOp2 ixD (eVar 4) (eK (.int 0))) (eK (.int 0))) (eK (.int 0))))) (sRet (eK (.bool false))) sNil)
    (sSeq (sFor (cRg1 (aCons (eOpN lenF (aCons (eVar 1) aNil)) aNil)) (gN 5) d_marks_hold_l3)
    (sRet (eOr2 (eOp2 isND (eOp2 ixD (eOp2 ixD (eVar 4) (eOp1 negD (eK (.int 1)))) (eOp1 negD (eK (.int 1)))) (eK .none)) (eOp2 geD (eOp2 ixD (eOp2 ixD (eVar 4) (eOp1 negD (eK (.int 1)))) (eOp1 negD (eK (.int 1)))) (eVar 3))))))))
noncomputable def m_marks_hold : List Wv → Sto → Rs Wv := mkF 5 13 d_marks_hold
theorem b_marks_hold {M : Md} {X : Cx} (T : Hs M) (h_is_mark_row : Has M false 2 "is_mark_row" ["thing", "many"] m_is_mark_row) (h_need_bound : Has M false 6 "need_bound" ["longs", "spans", "joints", "k"] m_need_bound) (h_ways_on : Has M false 4 "ways_on" ["longs", "spans", "joints", "at", "done", "clean"] m_ways_on) (c : Cxt M X B_marks_hold 6) : DB X (defBody s_marks_hold) d_marks_hold :=
    (db_cons (ds_exp (de_fn c (h_need_bound.up (by decide)) 0 rfl (da_cons (de_var c 0 rfl (by decide)) (da_cons (de_var c 1 rfl (by decide)) (da_cons (de_var c 2 rfl (by decide)) (da_cons (de_var c 3 rfl (by decide)) da_nil))))))
    (db_cons (ds_if (DW.dt (dw_or (dt_not (dt_val (de_isa c 1 2 rfl T.z_isinstance rfl T.z_tuple (by decide +kernel) (de_var c 4 rfl (by decide))))) (dw_or1 (dt_cmp (o_ne c.roomH) (de_callB (id := "len") c c_len 3 rfl T.z_len (by decide +kernel) (da_cons (de_var c 4 rfl (by decide)) da_nil)) (de_bin o_add (de_callB (id := "len") c c_len 3 rfl T.z_len (by decide +kernel) (da_cons (de_var c 1 rfl (by decide)) da_nil)) de_int) (nomark _))))) (db_one (ds_ret de_bl)) db_nil)
    (db_cons (ds_if (DW.dt (dw_or (dt_not (dt_val (de_callB (id := "all") c (c_all c.calm) 4 rfl T.z_all (by decide +kernel) (da_cons (de_lc c (lc_ok c [(".0", 11), ("row", 12)] [11, 12, 0] [11, 12] ["is_mark_row", "len"] ["longs"] (by decide +kernel) (di_seq (de_var c 4 rfl (by decide))) (by decide) (fun _ c7 => (dg_name c7 [11, 12] 12 rfl (by decide) (by decide))) (fun _ c7 => dts_nil) (fun _ c7 => (de_fn c7 (h_is_mark_row.up (by decide)) 0 rfl (da_cons (de_var c7 12 rfl (by decide)) (da_cons (de_bin o_add (de_callB (id := "len") c7 c_len 1 rfl T.z_len (by decide +kernel) (da_cons (de_var c7 0 rfl (by decide)) da_nil)) de_int) da_nil)))))) da_nil)))) (dw_or1 (dt_cmp (o_ne c.roomH) (de_ix c.roomH (de_ix c.roomH (de_var c 4 rfl (by decide)) de_int (fun _ _ => rfl)) de_int (fun _ _ => rfl)) de_int (nomark _))))) (db_one (ds_ret de_bl)) db_nil)
    (db_cons (ds_for c [5] (di_range1 c 5 rfl T.z_range (da_cons (de_callB (id := "len") c c_len 3 rfl T.z_len (by decide +kernel) (da_cons (de_var c 1 rfl (by decide)) da_nil)) da_nil)) (dg_name c [5] 5 rfl (by decide) (by decide))
    (db_wp [5, 6, 7, 8, 9, 10] (db_one (ds_for c [6, 7] (di_enum c 6 rfl T.z_enumerate (da_cons (de_ix c.roomH (de_var c 4 rfl (by decide)) (de_var c 5 rfl (by decide)) (fun _ _ => rfl)) da_nil)) (dg_tup c (dgs_cons (dg_name c [6, 7] 6 rfl (by decide) (by decide)) (dgs_cons (dg_name c [6, 7] 7 rfl (by decide) (by decide)) (dgs_nil [6, 7]))) (asks_cons (asks_cons asks_nil)))
    (db_wp [6, 7, 8, 9, 10] (db_one (ds_if (dt_cmp o_ntN (de_var c 7 rfl (by decide)) de_non (nomark _)) (db_one (ds_for c [8, 9] (di_seq (de_fn c (h_ways_on.up (by decide)) 7 rfl (da_cons (de_var c 0 rfl (by decide)) (da_cons (de_var c 1 rfl (by decide)) (da_cons (de_var c 2 rfl (by decide)) (da_cons (de_var c 5 rfl (by decide)) (da_cons (de_var c 6 rfl (by decide)) (da_cons de_bl da_nil)))))))) (dg_tup c (dgs_cons (dg_name c [8, 9] 8 rfl (by decide) (by decide)) (dgs_cons (dg_name c [8, 9] 9 rfl (by decide) (by decide)) (dgs_nil [8, 9]))) (asks_cons (asks_cons asks_nil)))
    (db_wp [8, 9, 10] (db_cons (ds_set c 10 rfl (by decide) (de_ix c.roomH (de_ix c.roomH (de_var c 4 rfl (by decide)) (de_bin o_add (de_var c 5 rfl (by decide)) de_int) (fun _ _ => rfl)) (de_bin o_add (de_var c 6 rfl (by decide)) (de_var c 8 rfl (by decide))) (fun _ _ => rfl)))
    (db_one (ds_if (DW.dt (dw_or (dt_cmp o_isN (de_var c 10 rfl (by decide)) de_non (nomark _)) (dw_or1 (dt_cmp (o_gt c.roomH) (de_var c 10 rfl (by decide)) (de_bin o_add (de_var c 7 rfl (by decide)) (de_var c 9 rfl (by decide))) (nomark _))))) (db_one (ds_ret de_bl)) db_nil)))))) db_nil)))))))
    (db_one (ds_ret (de_or (de_cmp o_isN (de_ix c.roomH (de_ix c.roomH (de_var c 4 rfl (by decide)) (de_un o_neg de_int) (fun _ _ => rfl)) (de_un o_neg de_int) (fun _ _ => rfl)) de_non (nomark _)) (de_one (de_cmp (o_ge c.roomH) (de_ix c.roomH (de_ix c.roomH (de_var c 4 rfl (by decide)) (de_un o_neg de_int) (fun _ _ => rfl)) (de_un o_neg de_int) (fun _ _ => rfl)) (de_var c 3 rfl (by decide)) (nomark _))))))))))
theorem h_marks_hold {M : Md} (T : Hs M) (h_is_mark_row : Has M false 2 "is_mark_row" ["thing", "many"] m_is_mark_row) (h_need_bound : Has M false 6 "need_bound" ["longs", "spans", "joints", "k"] m_need_bound) (h_ways_on : Has M false 4 "ways_on" ["longs", "spans", "joints", "at", "done", "clean"] m_ways_on) (F : TopFn M "marks_hold" s_marks_hold ["longs", "spans", "joints", "k", "thing"]) : Has M false 7 "marks_hold" ["longs", "spans", "joints", "k", "thing"] m_marks_hold := has_of F sc_marks_hold t_marks_hold rfl rfl (fun X c => b_marks_hold T h_is_mark_row h_need_bound h_ways_on c)
abbrev s_best_from : Stmt := topS 39
def B_best_from : Tb := ⟨["longs", "spans", "joints", "clean", "best", "at", "here", "done", "some", "many", "cuts", "rest"], [0, 1, 2, 3, 4, 5, 6, 7, 8, 9, 10, 11], [0, 1, 2, 3, 4, 5, 6, 7, 8, 9, 10, 11], [0, 1, 2, 3, 4, 5, 6, 7, 8, 9, 10, 11], ["len", "range", "ways_on", "min"], [], true, false, none⟩
theorem sc_best_from : FnScope B_best_from.N ["longs", "spans", "joints", "clean"] (defScope s_best_from) := ⟨rfl, rfl, rfl, by decide +kernel, rfl, by decide +kernel, by decide +kernel⟩
theorem t_best_from : fnT B_best_from (defScope s_best_from) = true := by decide +kernel
noncomputable def d_best_from_l1 : En → Sto → SR :=
    (sWp [9, 10, 11] (sSeq (sSet 11 (eOp2 ixD (eVar 4) (eOp2 addD (eVar 7) (eVar 9))))
    (sIf (tBl (eOp2 ntND (eVar 11) (eK .none))) (sExp (eM appW (eVar 8) (aCons (eTup (aCons (eOp2 addD (eVar 10) (eOp2 ixD (eVar 11) (eK (.int 0)))) (aCons (eOp2 addD (eTup (aCons (eVar 9) aNil)) (eOp2 ixD (eVar 11) (eK (.int 1)))) aNil))) aNil))) sNil)))
noncomputable def d_best_from_l2 : En → Sto → SR :=
    (sWp [7, 8, 9, 10, 11] (sSeq (sSet 8 (eNewL aNil))
    (sSeq (sFor (cSeq (eCall m_ways_on (aCons (eVar 0) (aCons (eVar 1) (aCons (eVar 2) (aCons (eVar 5) (aCons (eVar 7) (aCons (eVar 3) aNil)))))))) (gTp (gCn (gN 9) (gCn (gN 10) gNl))) d_best_from_l1)
    (sExp (eM appW (eVar 6) (aCons (eIf (tBl (eOp2 neD (eVar 8) (eLst aNil))) (eOpN (bestF PySem.W.minD) (aCons (eVar 8) aNil)) (eK .none)) aNil))))))
noncomputable def d_best_from_l3 : En → Sto → SR :=
    (sWp [5, 6, 7, 8, 9, 10, 11] (sSeq (sSet 6 (eNewL aNil))
    (sSeq (sFor (cRg1 (aCons (eOp2 addD (eOpN lenF (aCons (eVar 0) aNil)) (eK (.int 1))) aNil)) (gN 7) d_best_from_l2)
    (sSet 4 (eVar 6)))))
noncomputable def d_best_from : En → Sto → SR :=
    (sSeq (sSet 4 (eOp2 addD (eOp2 mulD (eLst (aCons (eK .none) aNil)) (eOpN lenF (aCons (eVar 0) aNil))) (eLst (aCons (eTup (aCons (eK (.int 0)) (aCons (eTup aNil) aNil))) aNil))))
    (sSeq (sFor (cRgD (aCons (eOp2 subD (eOpN lenF (aCons (eVar 1) aNil)) (eK (.int 1))) (aCons (eOp1 negD (eK (.int 1))) (aCons (eOp1 negD (eK (.int 1))) aNil)))) (gN 5) d_best_from_l3)
    (sRet (eOp2 ixD (eVar 4) (eK (.int 0))))))
noncomputable def m_best_from : List Wv → Sto → Rs Wv := mkF 4 12 d_best_from
theorem b_best_from {M : Md} {X : Cx} (T : Hs M) (h_ways_on : Has M false 4 "ways_on" ["longs", "spans", "joints", "at", "done", "clean"] m_ways_on) (c : Cxt M X B_best_from 4) : DB X (defBody s_best_from) d_best_from :=
    (db_cons (ds_set c 4 rfl (by decide) (de_bin o_add (de_bin o_mul (de_lst (da_cons de_non da_nil)) (de_callB (id := "len") c c_len 0 rfl T.z_len (by decide +kernel) (da_cons (de_var c 0 rfl (by decide)) da_nil))) (de_lst (da_cons (de_tup (da_cons de_int (da_cons (de_tup da_nil) da_nil))) da_nil))))
    (db_cons (ds_for c [5] (di_rangeD c 1 rfl T.z_range (da_cons (de_bin o_sub (de_callB (id := "len") c c_len 0 rfl T.z_len (by decide +kernel) (da_cons (de_var c 1 rfl (by decide)) da_nil)) de_int) (da_cons (de_un o_neg de_int) (da_cons (de_un o_neg de_int) da_nil)))) (dg_name c [5] 5 rfl (by decide) (by decide))
    (db_wp [5, 6, 7, 8, 9, 10, 11] (db_cons (ds_set c 6 rfl (by decide) (de_newl da_nil))
    (db_cons (ds_for c [7] (di_range1 c 1 rfl T.z_range (da_cons (de_bin o_add (de_callB (id := "len") c c_len 0 rfl T.z_len (by decide +kernel) (da_cons (de_var c 0 rfl (by decide)) da_nil)) de_int) da_nil)) (dg_name c [7] 7 rfl (by decide) (by decide))
    (db_wp [7, 8, 9, 10, 11] (db_cons (ds_set c 8 rfl (by decide) (de_newl da_nil))
    (db_cons (ds_for c [9, 10] (di_seq (de_fn c (h_ways_on.up (by decide)) 2 rfl (da_cons (de_var c 0 rfl (by decide)) (da_cons (de_var c 1 rfl (by decide)) (da_cons (de_var c 2 rfl (by decide)) (da_cons (de_var c 5 rfl (by decide)) (da_cons (de_var c 7 rfl (by decide)) (da_cons (de_var c 3 rfl (by decide)) da_nil)))))))) (dg_tup c (dgs_cons (dg_name c [9, 10] 9 rfl (by decide) (by decide)) (dgs_cons (dg_name c [9, 10] 10 rfl (by decide) (by decide)) (dgs_nil [9, 10]))) (asks_cons (asks_cons asks_nil)))
    (db_wp [9, 10, 11] (db_cons (ds_set c 11 rfl (by decide) (de_ix c.roomH (de_var c 4 rfl (by decide)) (de_bin o_add (de_var c 7 rfl (by decide)) (de_var c 9 rfl (by decide))) (fun _ _ => rfl)))
    (db_one (ds_if (dt_cmp o_ntN (de_var c 11 rfl (by decide)) de_non (nomark _)) (db_one (ds_exp (de_append (de_var c 8 rfl (by decide)) (da_cons (de_tup (da_cons (de_bin o_add (de_var c 10 rfl (by decide)) (de_ix c.roomH (de_var c 11 rfl (by decide)) de_int (fun _ _ => rfl))) (da_cons (de_bin o_add (de_tup (da_cons (de_var c 9 rfl (by decide)) da_nil)) (de_ix c.roomH (de_var c 11 rfl (by decide)) de_int (fun _ _ => rfl))) da_nil))) da_nil)))) db_nil)))))
    (db_one (ds_exp (de_append (de_var c 6 rfl (by decide)) (da_cons (de_if (dt_cmp (o_ne c.roomH) (de_var c 8 rfl (by decide)) (de_lst da_nil) (nomark _)) (de_callB (id := "min") c (c_min1 c.calm c.roomH) 3 rfl T.z_min (by decide +kernel) (da_cons (de_var c 8 rfl (by decide)) da_nil)) de_non) da_nil))))))))
    (db_one (ds_set c 4 rfl (by decide) (de_var c 6 rfl (by decide))))))))
    (db_one (ds_ret (de_ix c.roomH (de_var c 4 rfl (by decide)) de_int (fun _ _ => rfl))))))
theorem h_best_from {M : Md} (T : Hs M) (h_ways_on : Has M false 4 "ways_on" ["longs", "spans", "joints", "at", "done", "clean"] m_ways_on) (F : TopFn M "best_from" s_best_from ["longs", "spans", "joints", "clean"]) : Has M false 5 "best_from" ["longs", "spans", "joints", "clean"] m_best_from := has_of F sc_best_from t_best_from rfl rfl (fun X c => b_best_from T h_ways_on c)
abbrev s_parting : Stmt := topS 40
def B_parting : Tb := ⟨["longs", "spans", "joints", "found"], [0, 1, 2, 3], [0, 1, 2, 3], [0, 1, 2, 3], ["need_some", "best_from"], [], true, false, none⟩
theorem sc_parting : FnScope B_parting.N ["longs", "spans", "joints"] (defScope s_parting) := ⟨rfl, rfl, rfl, by decide +kernel, rfl, by decide +kernel, by decide +kernel⟩
theorem t_parting : fnT B_parting (defScope s_parting) = true := by decide +kernel
noncomputable def d_parting : En → Sto → SR :=
    (sSeq (sExp (eCall m_need_some (aCons (eVar 0) (aCons (eVar 1) (aCons (eVar 2) aNil)))))
    (sSeq (sSet 3 (eCall m_best_from (aCons (eVar 0) (aCons (eVar 1) (aCons (eVar 2) (aCons (eK (.bool true)) aNil))))))
    (sRet (eIf (tBl (eOp2 isND (eVar 3) (eK .none))) (eK .none) (eOp2 ixD (eVar 3) (eK (.int 1)))))))
noncomputable def m_parting : List Wv → Sto → Rs Wv := mkF 3 4 d_parting
theorem b_parting {M : Md} {X : Cx} (T : Hs M) (h_best_from : Has M false 5 "best_from" ["longs", "spans", "joints", "clean"] m_best_from) (h_need_some : Has M false 5 "need_some" ["longs", "spans", "joints"] m_need_some) (c : Cxt M X B_parting 5) : DB X (defBody s_parting) d_parting :=
    (db_cons (ds_exp (de_fn c (h_need_some.up (by decide)) 0 rfl (da_cons (de_var c 0 rfl (by decide)) (da_cons (de_var c 1 rfl (by decide)) (da_cons (de_var c 2 rfl (by decide)) da_nil)))))
    (db_cons (ds_set c 3 rfl (by decide) (de_fn c (h_best_from.up (by decide)) 1 rfl (da_cons (de_var c 0 rfl (by decide)) (da_cons (de_var c 1 rfl (by decide)) (da_cons (de_var c 2 rfl (by decide)) (da_cons de_bl da_nil))))))
    (db_one (ds_ret (de_if (dt_cmp o_isN (de_var c 3 rfl (by decide)) de_non (nomark _)) de_non (de_ix c.roomH (de_var c 3 rfl (by decide)) de_int (fun _ _ => rfl)))))))
theorem h_parting {M : Md} (T : Hs M) (h_best_from : Has M false 5 "best_from" ["longs", "spans", "joints", "clean"] m_best_from) (h_need_some : Has M false 5 "need_some" ["longs", "spans", "joints"] m_need_some) (F : TopFn M "parting" s_parting ["longs", "spans", "joints"]) : Has M false 6 "parting" ["longs", "spans", "joints"] m_parting := has_of F sc_parting t_parting rfl rfl (fun X c => b_parting T h_best_from h_need_some c)
abbrev s_fewest_cuts : Stmt := topS 41
def B_fewest_cuts : Tb := ⟨["longs", "spans", "joints"], [0, 1, 2], [0, 1, 2], [0, 1, 2], ["need_some", "best_from"], [], true, false, none⟩
theorem sc_fewest_cuts : FnScope B_fewest_cuts.N ["longs", "spans", "joints"] (defScope s_fewest_cuts) := ⟨rfl, rfl, rfl, by decide +kernel, rfl, by decide +kernel, by decide +kernel⟩
theorem t_fewest_cuts : fnT B_fewest_cuts (defScope s_fewest_cuts) = true := by decide +kernel
noncomputable def d_fewest_cuts : En → Sto → SR :=
    (sSeq (sExp (eCall m_need_some (aCons (eVar 0) (aCons (eVar 1) (aCons (eVar 2) aNil)))))
    (sRet (eCall m_best_from (aCons (eVar 0) (aCons (eVar 1) (aCons (eVar 2) (aCons (eK (.bool false)) aNil)))))))
noncomputable def m_fewest_cuts : List Wv → Sto → Rs Wv := mkF 3 3 d_fewest_cuts
theorem b_fewest_cuts {M : Md} {X : Cx} (T : Hs M) (h_best_from : Has M false 5 "best_from" ["longs", "spans", "joints", "clean"] m_best_from) (h_need_some : Has M false 5 "need_some" ["longs", "spans", "joints"] m_need_some) (c : Cxt M X B_fewest_cuts 5) : DB X (defBody s_fewest_cuts) d_fewest_cuts :=
    (db_cons (ds_exp (de_fn c (h_need_some.up (by decide)) 0 rfl (da_cons (de_var c 0 rfl (by decide)) (da_cons (de_var c 1 rfl (by decide)) (da_cons (de_var c 2 rfl (by decide)) da_nil)))))
    (db_one (ds_ret (de_fn c (h_best_from.up (by decide)) 1 rfl (da_cons (de_var c 0 rfl (by decide)) (da_cons (de_var c 1 rfl (by decide)) (da_cons (de_var c 2 rfl (by decide)) (da_cons de_bl da_nil))))))))
theorem h_fewest_cuts {M : Md} (T : Hs M) (h_best_from : Has M false 5 "best_from" ["longs", "spans", "joints", "clean"] m_best_from) (h_need_some : Has M false 5 "need_some" ["longs", "spans", "joints"] m_need_some) (F : TopFn M "fewest_cuts" s_fewest_cuts ["longs", "spans", "joints"]) : Has M false 6 "fewest_cuts" ["longs", "spans", "joints"] m_fewest_cuts := has_of F sc_fewest_cuts t_fewest_cuts rfl rfl (fun X c => b_fewest_cuts T h_best_from h_need_some c)
abbrev s_is_told : Stmt := topS 45
def B_is_told : Tb := ⟨["thing", "due", "one", "other", ".0", "number"], [0, 1, 2, 3], [0, 1, 2, 3], [0, 1, 2, 3], ["isinstance", "list", "len", "zip", "tuple", "all"], [], true, false, none⟩
theorem sc_is_told : FnScope B_is_told.N ["thing", "due"] (defScope s_is_told) := ⟨rfl, rfl, rfl, by decide +kernel, rfl, by decide +kernel, by decide +kernel⟩
theorem t_is_told : fnT B_is_told (defScope s_is_told) = true := by decide +kernel
noncomputable def d_is_told_l1 : En → Sto → SR :=
    (sWp [2, 3] (sIf (tOr2 (tNot1 (tTru (eOp1 (isaD "tuple") (eVar 2)))) (tOr2 (tNot1 (tTru (eOpN allF (aCons (eLc (cSeq (eVar 2)) (gN 5) tYs (eCall m_is_whole (aCons (eVar 5) aNil)) [4, 5]) aNil)))) (tBl (eOp2 neD (eVar 2) (eVar 3))))) (sRet (eK (.bool false))) sNil))
noncomputable def d_is_told : En → Sto → SR :=
    (sSeq (sIf (tOr2 (tNot1 (tTru (eOp1 (isaD "list") (eVar 0)))) (tBl (eOp2 neD (eOpN lenF (aCons (eVar 0) aNil)) (eOpN lenF (aCons (eVar 1) aNil))))) (sRet (eK (.bool false))) sNil)
    (sSeq (sFor (cZip2 (aCons (eVar 0) (aCons (eVar 1) aNil))) (gTp (gCn (gN 2) (gCn (gN 3) gNl))) d_is_told_l1)
    (sRet (eK (.bool true)))))
noncomputable def m_is_told : List Wv → Sto → Rs Wv := mkF 2 6 d_is_told
theorem b_is_told {M : Md} {X : Cx} (T : Hs M) (h_is_whole : Has M false 1 "is_whole" ["thing"] m_is_whole) (c : Cxt M X B_is_told 1) : DB X (defBody s_is_told) d_is_told :=
    (db_cons (ds_if (DW.dt (dw_or (dt_not (dt_val (de_isa c 0 1 rfl T.z_isinstance rfl T.z_list (by decide +kernel) (de_var c 0 rfl (by decide))))) (dw_or1 (dt_cmp (o_ne c.roomH) (de_callB (id := "len") c c_len 2 rfl T.z_len (by decide +kernel) (da_cons (de_var c 0 rfl (by decide)) da_nil)) (de_callB (id := "len") c c_len 2 rfl T.z_len (by decide +kernel) (da_cons (de_var c 1 rfl (by decide)) da_nil)) (nomark _))))) (db_one (ds_ret de_bl)) db_nil)
    (db_cons (ds_for c [2, 3] (di_zip2 c 3 rfl T.z_zip (da_cons (de_var c 0 rfl (by decide)) (da_cons (de_var c 1 rfl (by decide)) da_nil))) (dg_tup c (dgs_cons (dg_name c [2, 3] 2 rfl (by decide) (by decide)) (dgs_cons (dg_name c [2, 3] 3 rfl (by decide) (by decide)) (dgs_nil [2, 3]))) (asks_cons (asks_cons asks_nil)))
    (db_wp [2, 3] (db_one (ds_if (DW.dt (dw_or (dt_not (dt_val (de_isa c 0 4 rfl T.z_isinstance rfl T.z_tuple (by decide +kernel) (de_var c 2 rfl (by decide))))) (dw_or (dt_not (dt_val (de_callB (id := "all") c (c_all c.calm) 5 rfl T.z_all (by decide +kernel) (da_cons (de_lc c (lc_ok c [(".0", 4), ("number", 5)] [4, 5] [4, 5] ["is_whole"] [] (by decide +kernel) (di_seq (de_var c 2 rfl (by decide))) (by decide) (fun _ c8 => (dg_name c8 [4, 5] 5 rfl (by decide) (by decide))) (fun _ c8 => dts_nil) (fun _ c8 => (de_fn c8 (h_is_whole.up (by decide)) 0 rfl (da_cons (de_var c8 5 rfl (by decide)) da_nil))))) da_nil)))) (dw_or1 (dt_cmp (o_ne c.roomH) (de_var c 2 rfl (by decide)) (de_var c 3 rfl (by decide)) (nomark _)))))) (db_one (ds_ret de_bl)) db_nil))))
    (db_one (ds_ret de_bl))))
theorem h_is_told {M : Md} (T : Hs M) (h_is_whole : Has M false 1 "is_whole" ["thing"] m_is_whole) (F : TopFn M "is_told" s_is_told ["thing", "due"]) : Has M false 2 "is_told" ["thing", "due"] m_is_told := has_of F sc_is_told t_is_told rfl rfl (fun X c => b_is_told T h_is_whole c)
abbrev s_levels_hold : Stmt := topS 46
def B_levels_hold : Tb := ⟨["longs", "spans", "joints", "thing"], [0, 1, 2, 3], [0, 1, 2, 3], [0, 1, 2, 3], ["need_some", "is_told", "levels_by"], [], true, false, none⟩
theorem sc_levels_hold : FnScope B_levels_hold.N ["longs", "spans", "joints", "thing"] (defScope s_levels_hold) := ⟨rfl, rfl, rfl, by decide +kernel, rfl, by decide +kernel, by decide +kernel⟩
theorem t_levels_hold : fnT B_levels_hold (defScope s_levels_hold) = true := by decide +kernel
noncomputable def d_levels_hold : En → Sto → SR :=
    (sSeq (sExp (eCall m_need_some (aCons (eVar 0) (aCons (eVar 1) (aCons (eVar 2) aNil)))))
    (sRet (eCall m_is_told (aCons (eVar 3) (aCons (eCall m_levels_by (aCons (eVar 0) (aCons (eVar 1) (aCons (eVar 2) aNil)))) aNil)))))
noncomputable def m_levels_hold : List Wv → Sto → Rs Wv := mkF 4 4 d_levels_hold
theorem b_levels_hold {M : Md} {X : Cx} (T : Hs M) (h_is_told : Has M false 2 "is_told" ["thing", "due"] m_is_told) (h_levels_by : Has M false 5 "levels_by" ["longs", "spans", "joints"] m_levels_by) (h_need_some : Has M false 5 "need_some" ["longs", "spans", "joints"] m_need_some) (c : Cxt M X B_levels_hold 5) : DB X (defBody s_levels_hold) d_levels_hold :=
    (db_cons (ds_exp (de_fn c (h_need_some.up (by decide)) 0 rfl (da_cons (de_var c 0 rfl (by decide)) (da_cons (de_var c 1 rfl (by decide)) (da_cons (de_var c 2 rfl (by decide)) da_nil)))))
    (db_one (ds_ret (de_fn c (h_is_told.up (by decide)) 1 rfl (da_cons (de_var c 3 rfl (by decide)) (da_cons (de_fn c (h_levels_by.up (by decide)) 2 rfl (da_cons (de_var c 0 rfl (by decide)) (da_cons (de_var c 1 rfl (by decide)) (da_cons (de_var c 2 rfl (by decide)) da_nil)))) da_nil))))))
theorem h_levels_hold {M : Md} (T : Hs M) (h_is_told : Has M false 2 "is_told" ["thing", "due"] m_is_told) (h_levels_by : Has M false 5 "levels_by" ["longs", "spans", "joints"] m_levels_by) (h_need_some : Has M false 5 "need_some" ["longs", "spans", "joints"] m_need_some) (F : TopFn M "levels_hold" s_levels_hold ["longs", "spans", "joints", "thing"]) : Has M false 6 "levels_hold" ["longs", "spans", "joints", "thing"] m_levels_hold := has_of F sc_levels_hold t_levels_hold rfl rfl (fun X c => b_levels_hold T h_is_told h_levels_by h_need_some c)
abbrev s__law_runs : Stmt := topS 60
def B__law_runs : Tb := ⟨["_law_longs_here", "_law_some", "_law_found", "_law_done", "_law_many"], [0, 1, 2, 3, 4], [0, 1, 2, 3, 4], [0, 1, 2, 3, 4], [], [], true, false, none⟩
theorem sc__law_runs : FnScope B__law_runs.N ["_law_longs_here", "_law_some"] (defScope s__law_runs) := ⟨rfl, rfl, rfl, by decide +kernel, rfl, by decide +kernel, by decide +kernel⟩
theorem t__law_runs : fnT B__law_runs (defScope s__law_runs) = true := by decide +kernel
noncomputable def d__law_runs_l1 : En → Sto → SR :=
    (sWp [4] (sSeq (sExp (eM appW (eVar 2) (aCons (eSlice (eVar 0) (pSome (eVar 3)) (pSome (eOp2 addD (eVar 3) (eVar 4)))) aNil)))
    (sSet 3 (eOp2 addD (eVar 3) (eVar 4)))))
noncomputable def d__law_runs : En → Sto → SR :=
    (sSeq (sPar2 2 3 (aCons (eNewL aNil) (aCons (eK (.int 0)) aNil)))
    (sSeq (sFor (cSeq (eVar 1)) (gN 4) d__law_runs_l1)
    (sRetF (eVar 2))))
noncomputable def m__law_runs : List Wv → Sto → Rs Wv := mkF 2 5 d__law_runs
theorem b__law_runs {M : Md} {X : Cx} (T : Hs M)  (c : Cxt M X B__law_runs 0) : DB X (defBody s__law_runs) d__law_runs :=
    (db_cons (ds_par2 c 2 3 rfl rfl (by decide) (isLoc c (i := 2) (by decide) rfl) (isLoc c (i := 3) (by decide) rfl) (da_cons (de_newl da_nil) (da_cons de_int da_nil)) (sw2 c (i := 2) (j := 3) rfl rfl (by decide) (by decide) (by decide +kernel) rfl rfl (by intro _ _ h; cases h) (by intro _ _ h; cases h) rfl rfl))
    (db_cons (ds_for c [4] (di_seq (de_var c 1 rfl (by decide))) (dg_name c [4] 4 rfl (by decide) (by decide))
    (db_wp [4] (db_cons (ds_exp (de_append (de_var c 2 rfl (by decide)) (da_cons (de_slice (de_var c 0 rfl (by decide)) (do_some (de_var c 3 rfl (by decide))) (do_some (de_bin o_add (de_var c 3 rfl (by decide)) (de_var c 4 rfl (by decide))))) da_nil)))
    (db_one (ds_set c 3 rfl (by decide) (de_bin o_add (de_var c 3 rfl (by decide)) (de_var c 4 rfl (by decide))))))))
    (db_one (ds_retf (de_var c 2 rfl (by decide))))))
theorem h__law_runs {M : Md} (T : Hs M)  (F : TopFn M "_law_runs" s__law_runs ["_law_longs_here", "_law_some"]) : Has M false 1 "_law_runs" ["_law_longs_here", "_law_some"] m__law_runs := has_of F sc__law_runs t__law_runs rfl rfl (fun X c => b__law_runs T  c)
abbrev s_cut_marks : Stmt := topS 48
def B_cut_marks : Tb := ⟨["longs", "spans", "joints", "k", "found", "at", "here", "done", "mark", "many", "cuts", "old"], [0, 1, 2, 3, 4, 5, 6, 7, 8, 9, 10, 11], [0, 1, 2, 3, 4, 5, 6, 7, 8, 9, 10, 11], [0, 1, 2, 3, 4, 5, 6, 7, 8, 9, 10, 11], ["need_bound", "len", "range", "enumerate", "ways_on", "min", "tuple"], [], true, false, none⟩
theorem sc_cut_marks : FnScope B_cut_marks.N ["longs", "spans", "joints", "k"] (defScope s_cut_marks) := ⟨rfl, rfl, rfl, by decide +kernel, rfl, by decide +kernel, by decide +kernel⟩
theorem t_cut_marks : fnT B_cut_marks (defScope s_cut_marks) = true := by decide +kernel
noncomputable def d_cut_marks_l1 : En → Sto → SR :=
    (sWp [9, 10, 11] (sSeq (sSet 11 (eOp2 ixD (eVar 6) (eOp2 addD (eVar 7) (eVar 9))))
    (sIx (eVar 6) (eOp2 addD (eVar 7) (eVar 9)) (eIf (tBl (eOp2 isND (eVar 11) (eK .none))) (eOp2 addD (eVar 8) (eVar 10)) (eOpN min2F (aCons (eVar 11) (aCons (eOp2 addD (eVar 8) (eVar 10)) aNil)))))))
noncomputable def d_cut_marks_l2 : En → Sto → SR :=
    (sWp [7, 8, 9, 10, 11] (sIf (tBl (eOp2 ntND (eVar 8) (eK .none))) (sFor (cSeq (eCall m_ways_on (aCons (eVar 0) (aCons (eVar 1) (aCons (eVar 2) (aCons (eVar 5) (aCons (eVar 7) (aCons (eK (.bool false)) aNil)))))))) (gTp (gCn (gN 9) (gCn (gN 10) gNl))) d_cut_marks_l1) sNil))
noncomputable def d_cut_marks_l3 : En → Sto → SR :=
    (sWp [5, 6, 7, 8, 9, 10, 11] (sSeq (sSet 6 (eOp2N mulN (eLst (aCons (eK .none) aNil)) (eOp2 addD (eOpN lenF (aCons (eVar 0) aNil)) (eK (.int 1)))))
    (sSeq (sFor (cEnum (aCons (eOp2 ixD (eVar 4) (eOp1 negD (eK (.int 1)))) aNil)) (gTp (gCn (gN 7) (gCn (gN 8) gNl))) d_cut_marks_l2)
    (sExp (eM appW (eVar 4) (aCons (eOpN tupF (aCons (eVar 6) aNil)) aNil))))))
noncomputable def d_cut_marks : En → Sto → SR :=
    (sSeq (sExp (eCall m_need_bound (aCons (eVar 0) (aCons (eVar 1) (aCons (eVar 2) (aCons (eVar 3) aNil))))))
    (sSeq (sSet 4 (eNewL (aCons (eOp2 addD (eTup (aCons (eK (.int 0)) aNil)) (eOp2 mulD (eTup (aCons (eK .none) aNil)) (eOpN lenF (aCons (eVar 0) aNil)))) aNil)))
    (sSeq (sFor (cRg1 (aCons (eOpN lenF (aCons (eVar 1) aNil)) aNil)) (gN 5) d_cut_marks_l3)
    (sSeq (sIf (tAnd2 (tBl (eOp2 ntND (eOp2 ixD (eOp2 ixD (eVar 4) (eOp1 negD (eK (.int 1)))) (eOp1 negD (eK (.int 1)))) (eK .none))) (tBl (eOp2 ltD (eOp2 ixD (eOp2 ixD (eVar 4) (eOp1 negD (eK (.int 1)))) (eOp1 negD (eK (.int 1)))) (eVar 3)))) (sRet (eK .none)) sNil)
    (sRet (eOpN tupF (aCons (eVar 4) aNil)))))))
noncomputable def m_cut_marks : List Wv → Sto → Rs Wv := mkF 4 12 d_cut_marks
theorem b_cut_marks {M : Md} {X : Cx} (T : Hs M) (h_need_bound : Has M false 6 "need_bound" ["longs", "spans", "joints", "k"] m_need_bound) (h_ways_on : Has M false 4 "ways_on" ["longs", "spans", "joints", "at", "done", "clean"] m_ways_on) (c : Cxt M X B_cut_marks 6) : DB X (defBody s_cut_marks) d_cut_marks :=
    (db_cons (ds_exp (de_fn c (h_need_bound.up (by decide)) 0 rfl (da_cons (de_var c 0 rfl (by decide)) (da_cons (de_var c 1 rfl (by decide)) (da_cons (de_var c 2 rfl (by decide)) (da_cons (de_var c 3 rfl (by decide)) da_nil))))))
    (db_cons (ds_set c 4 rfl (by decide) (de_newl (da_cons (de_bin o_add (de_tup (da_cons de_int da_nil)) (de_bin o_mul (de_tup (da_cons de_non da_nil)) (de_callB (id := "len") c c_len 1 rfl T.z_len (by decide +kernel) (da_cons (de_var c 0 rfl (by decide)) da_nil)))) da_nil)))
    (db_cons (ds_for c [5] (di_range1 c 2 rfl T.z_range (da_cons (de_callB (id := "len") c c_len 1 rfl T.z_len (by decide +kernel) (da_cons (de_var c 1 rfl (by decide)) da_nil)) da_nil)) (dg_name c [5] 5 rfl (by decide) (by decide))
    (db_wp [5, 6, 7, 8, 9, 10, 11] (db_cons (ds_set c 6 rfl (by decide) (de_binN n_mul (de_lst (da_cons de_non da_nil)) (de_bin o_add (de_callB (id := "len") c c_len 1 rfl T.z_len (by decide +kernel) (da_cons (de_var c 0 rfl (by decide)) da_nil)) de_int)))
    (db_cons (ds_for c [7, 8] (di_enum c 3 rfl T.z_enumerate (da_cons (de_ix c.roomH (de_var c 4 rfl (by decide)) (de_un o_neg de_int) (fun _ _ => rfl)) da_nil)) (dg_tup c (dgs_cons (dg_name c [7, 8] 7 rfl (by decide) (by decide)) (dgs_cons (dg_name c [7, 8] 8 rfl (by decide) (by decide)) (dgs_nil [7, 8]))) (asks_cons (asks_cons asks_nil)))
    (db_wp [7, 8, 9, 10, 11] (db_one (ds_if (dt_cmp o_ntN (de_var c 8 rfl (by decide)) de_non (nomark _)) (db_one (ds_for c [9, 10] (di_seq (de_fn c (h_ways_on.up (by decide)) 4 rfl (da_cons (de_var c 0 rfl (by decide)) (da_cons (de_var c 1 rfl (by decide)) (da_cons (de_var c 2 rfl (by decide)) (da_cons (de_var c 5 rfl (by decide)) (da_cons (de_var c 7 rfl (by decide)) (da_cons de_bl da_nil)))))))) (dg_tup c (dgs_cons (dg_name c [9, 10] 9 rfl (by decide) (by decide)) (dgs_cons (dg_name c [9, 10] 10 rfl (by decide) (by decide)) (dgs_nil [9, 10]))) (asks_cons (asks_cons asks_nil)))
    (db_wp [9, 10, 11] (db_cons (ds_set c 11 rfl (by decide) (de_ix c.roomH (de_var c 6 rfl (by decide)) (de_bin o_add (de_var c 7 rfl (by decide)) (de_var c 9 rfl (by decide))) (fun _ _ => rfl)))
    (db_one (ds_setix c (de_var c 6 rfl (by decide)) (de_bin o_add (de_var c 7 rfl (by decide)) (de_var c 9 rfl (by decide))) (de_if (dt_cmp o_isN (de_var c 11 rfl (by decide)) de_non (nomark _)) (de_bin o_add (de_var c 8 rfl (by decide)) (de_var c 10 rfl (by decide))) (de_callB (id := "min") c (c_min2 c.calm) 5 rfl T.z_min (by decide +kernel) (da_cons (de_var c 11 rfl (by decide)) (da_cons (de_bin o_add (de_var c 8 rfl (by decide)) (de_var c 10 rfl (by decide))) da_nil)))))))))) db_nil))))
    (db_one (ds_exp (de_append (de_var c 4 rfl (by decide)) (da_cons (de_callT (T := "tuple") c c_tup 6 rfl T.z_tuple (by decide +kernel) (da_cons (de_var c 6 rfl (by decide)) da_nil)) da_nil))))))))
    (db_cons (ds_if (DW.dt (dw_and (dt_cmp o_ntN (de_ix c.roomH (de_ix c.roomH (de_var c 4 rfl (by decide)) (de_un o_neg de_int) (fun _ _ => rfl)) (de_un o_neg de_int) (fun _ _ => rfl)) de_non (nomark _)) (dw_and1 (dt_cmp (o_lt c.roomH) (de_ix c.roomH (de_ix c.roomH (de_var c 4 rfl (by decide)) (de_un o_neg de_int) (fun _ _ => rfl)) (de_un o_neg de_int) (fun _ _ => rfl)) (de_var c 3 rfl (by decide)) (nomark _))))) (db_one (ds_ret de_non)) db_nil)
    (db_one (ds_ret (de_callT (T := "tuple") c c_tup 6 rfl T.z_tuple (by decide +kernel) (da_cons (de_var c 4 rfl (by decide)) da_nil))))))))
theorem h_cut_marks {M : Md} (T : Hs M) (h_need_bound : Has M false 6 "need_bound" ["longs", "spans", "joints", "k"] m_need_bound) (h_ways_on : Has M false 4 "ways_on" ["longs", "spans", "joints", "at", "done", "clean"] m_ways_on) (F : TopFn M "cut_marks" s_cut_marks ["longs", "spans", "joints", "k"]) : Has M false 7 "cut_marks" ["longs", "spans", "joints", "k"] m_cut_marks := has_of F sc_cut_marks t_cut_marks rfl rfl (fun X c => b_cut_marks T h_need_bound h_ways_on c)
abbrev s_stuck : Stmt := topS 44
def B_stuck : Tb := ⟨["longs", "spans", "joints", "found", "at", "some"], [0, 1, 2, 3, 4, 5], [0, 1, 2, 3, 4, 5], [0, 1, 2, 3, 4, 5], ["need_some", "levels_by", "len", "enumerate"], [], true, false, none⟩
theorem sc_stuck : FnScope B_stuck.N ["longs", "spans", "joints"] (defScope s_stuck) := ⟨rfl, rfl, rfl, by decide +kernel, rfl, by decide +kernel, by decide +kernel⟩
theorem t_stuck : fnT B_stuck (defScope s_stuck) = true := by decide +kernel
noncomputable def d_stuck_l1 : En → Sto → SR :=
    (sWp [4, 5] (sIf (tBl (eOp2 eqD (eVar 5) (eTup aNil))) (sRet (eVar 4)) sNil))
noncomputable def d_stuck : En → Sto → SR :=
    (sSeq (sExp (eCall m_need_some (aCons (eVar 0) (aCons (eVar 1) (aCons (eVar 2) aNil)))))
    (sSeq (sSet 3 (eCall m_levels_by (aCons (eVar 0) (aCons (eVar 1) (aCons (eVar 2) aNil)))))
    (sSeq (sIf (tBl (eOp2 inD (eOpN lenF (aCons (eVar 0) aNil)) (eOp2 ixD (eVar 3) (eOp1 negD (eK (.int 1)))))) (sRet (eOp1 negD (eK (.int 1)))) sNil)
    (sSeq (sFor (cEnum (aCons (eVar 3) aNil)) (gTp (gCn (gN 4) (gCn (gN 5) gNl))) d_stuck_l1)
    (sRet (eK .none))))))
noncomputable def m_stuck : List Wv → Sto → Rs Wv := mkF 3 6 d_stuck
theorem b_stuck {M : Md} {X : Cx} (T : Hs M) (h_levels_by : Has M false 5 "levels_by" ["longs", "spans", "joints"] m_levels_by) (h_need_some : Has M false 5 "need_some" ["longs", "spans", "joints"] m_need_some) (c : Cxt M X B_stuck 5) : DB X (defBody s_stuck) d_stuck :=
    (db_cons (ds_exp (de_fn c (h_need_some.up (by decide)) 0 rfl (da_cons (de_var c 0 rfl (by decide)) (da_cons (de_var c 1 rfl (by decide)) (da_cons (de_var c 2 rfl (by decide)) da_nil)))))
    (db_cons (ds_set c 3 rfl (by decide) (de_fn c (h_levels_by.up (by decide)) 1 rfl (da_cons (de_var c 0 rfl (by decide)) (da_cons (de_var c 1 rfl (by decide)) (da_cons (de_var c 2 rfl (by decide)) da_nil)))))
    (db_cons (ds_if (dt_cmp (o_in c.roomH) (de_callB (id := "len") c c_len 2 rfl T.z_len (by decide +kernel) (da_cons (de_var c 0 rfl (by decide)) da_nil)) (de_ix c.roomH (de_var c 3 rfl (by decide)) (de_un o_neg de_int) (fun _ _ => rfl)) rfl) (db_one (ds_ret (de_un o_neg de_int))) db_nil)
    (db_cons (ds_for c [4, 5] (di_enum c 3 rfl T.z_enumerate (da_cons (de_var c 3 rfl (by decide)) da_nil)) (dg_tup c (dgs_cons (dg_name c [4, 5] 4 rfl (by decide) (by decide)) (dgs_cons (dg_name c [4, 5] 5 rfl (by decide) (by decide)) (dgs_nil [4, 5]))) (asks_cons (asks_cons asks_nil)))
    (db_wp [4, 5] (db_one (ds_if (dt_cmp (o_eq c.roomH) (de_var c 5 rfl (by decide)) (de_tup da_nil) (nomark _)) (db_one (ds_ret (de_var c 4 rfl (by decide)))) db_nil))))
    (db_one (ds_ret de_non))))))
theorem h_stuck {M : Md} (T : Hs M) (h_levels_by : Has M false 5 "levels_by" ["longs", "spans", "joints"] m_levels_by) (h_need_some : Has M false 5 "need_some" ["longs", "spans", "joints"] m_need_some) (F : TopFn M "stuck" s_stuck ["longs", "spans", "joints"]) : Has M false 6 "stuck" ["longs", "spans", "joints"] m_stuck := has_of F sc_stuck t_stuck rfl rfl (fun X c => b_stuck T h_levels_by h_need_some c)
abbrev s__law_cuts : Stmt := topS 61
def B__law_cuts : Tb := ⟨["_law_one", "_law_other", ".0", "_law_long", "_law_here"], [0, 1], [0, 1], [0, 1], ["len", "zip"], [], true, false, none⟩
theorem sc__law_cuts : FnScope B__law_cuts.N ["_law_one", "_law_other"] (defScope s__law_cuts) := ⟨rfl, rfl, rfl, by decide +kernel, rfl, by decide +kernel, by decide +kernel⟩
theorem t__law_cuts : fnT B__law_cuts (defScope s__law_cuts) = true := by decide +kernel
noncomputable def d__law_cuts : En → Sto → SR :=
    (sRet (eOpN lenF (aCons (eLc (cZip2 (aCons (eVar 0) (aCons (eVar 1) aNil))) (gTp (gCn (gN 3) (gCn (gN 4) gNl))) (tBl (eOp2 neD (eVar 3) (eVar 4))) (eK (.int 1)) [2, 3, 4]) aNil)))
noncomputable def m__law_cuts : List Wv → Sto → Rs Wv := mkF 2 5 d__law_cuts
theorem b__law_cuts {M : Md} {X : Cx} (T : Hs M)  (c : Cxt M X B__law_cuts 0) : DB X (defBody s__law_cuts) d__law_cuts :=
    (db_one (ds_ret (de_callB (id := "len") c c_len 0 rfl T.z_len (by decide +kernel) (da_cons (de_lc c (lc_ok c [(".0", 2), ("_law_long", 3), ("_law_here", 4)] [2, 3, 4] [2, 3, 4] [] [] (by decide +kernel) (di_zip2 c 1 rfl T.z_zip (da_cons (de_var c 0 rfl (by decide)) (da_cons (de_var c 1 rfl (by decide)) da_nil))) (by decide) (fun _ c9 => (dg_tup c9 (dgs_cons (dg_name c9 [2, 3, 4] 3 rfl (by decide) (by decide)) (dgs_cons (dg_name c9 [2, 3, 4] 4 rfl (by decide) (by decide)) (dgs_nil [2, 3, 4]))) (asks_cons (asks_cons asks_nil)))) (fun _ c9 => (dts_one (dt_cmp (o_ne c9.roomH) (de_var c9 3 rfl (by decide)) (de_var c9 4 rfl (by decide)) (nomark _)))) (fun _ c9 => de_int))) da_nil))))
theorem h__law_cuts {M : Md} (T : Hs M)  (F : TopFn M "_law_cuts" s__law_cuts ["_law_one", "_law_other"]) : Has M false 1 "_law_cuts" ["_law_one", "_law_other"] m__law_cuts := has_of F sc__law_cuts t__law_cuts rfl rfl (fun X c => b__law_cuts T  c)
abbrev s_need_span : Stmt := topS 17
def B_need_span : Tb := ⟨["span"], [0], [0], [0], ["is_span", "NoSpan"], [], true, false, none⟩
theorem sc_need_span : FnScope B_need_span.N ["span"] (defScope s_need_span) := ⟨rfl, rfl, rfl, by decide +kernel, rfl, by decide +kernel, by decide +kernel⟩
theorem t_need_span : fnT B_need_span (defScope s_need_span) = true := by decide +kernel
noncomputable def d_need_span : En → Sto → SR :=
    (sIf (tNot1 (tTru (eCall m_is_span (aCons (eVar 0) aNil)))) sNo sNil)
noncomputable def m_need_span : List Wv → Sto → Rs Wv := mkF 1 1 d_need_span
theorem b_need_span {M : Md} {X : Cx} (T : Hs M) (h_is_span : Has M false 3 "is_span" ["thing"] m_is_span) (c : Cxt M X B_need_span 3) : DB X (defBody s_need_span) d_need_span :=
    (db_one (ds_if (dt_not (dt_val (de_fn c (h_is_span.up (by decide)) 0 rfl (da_cons (de_var c 0 rfl (by decide)) da_nil)))) (db_one ds_no) db_nil))
theorem h_need_span {M : Md} (T : Hs M) (h_is_span : Has M false 3 "is_span" ["thing"] m_is_span) (F : TopFn M "need_span" s_need_span ["span"]) : Has M false 4 "need_span" ["span"] m_need_span := has_of F sc_need_span t_need_span rfl rfl (fun X c => b_need_span T h_is_span c)
abbrev s_need_all : Stmt := topS 20
def B_need_all : Tb := ⟨["longs", "span", "joints"], [0, 1, 2], [0, 1, 2], [0, 1, 2], ["need_longs", "need_span", "need_joints"], [], true, false, none⟩
theorem sc_need_all : FnScope B_need_all.N ["longs", "span", "joints"] (defScope s_need_all) := ⟨rfl, rfl, rfl, by decide +kernel, rfl, by decide +kernel, by decide +kernel⟩
theorem t_need_all : fnT B_need_all (defScope s_need_all) = true := by decide +kernel
noncomputable def d_need_all : En → Sto → SR :=
    (sSeq (sExp (eCall m_need_longs (aCons (eVar 0) aNil)))
    (sSeq (sExp (eCall m_need_span (aCons (eVar 1) aNil)))
    (sExp (eCall m_need_joints (aCons (eVar 2) aNil)))))
noncomputable def m_need_all : List Wv → Sto → Rs Wv := mkF 3 3 d_need_all
theorem b_need_all {M : Md} {X : Cx} (T : Hs M) (h_need_joints : Has M false 4 "need_joints" ["joints"] m_need_joints) (h_need_longs : Has M false 4 "need_longs" ["longs"] m_need_longs) (h_need_span : Has M false 4 "need_span" ["span"] m_need_span) (c : Cxt M X B_need_all 4) : DB X (defBody s_need_all) d_need_all :=
    (db_cons (ds_exp (de_fn c (h_need_longs.up (by decide)) 0 rfl (da_cons (de_var c 0 rfl (by decide)) da_nil)))
    (db_cons (ds_exp (de_fn c (h_need_span.up (by decide)) 1 rfl (da_cons (de_var c 1 rfl (by decide)) da_nil)))
    (db_one (ds_exp (de_fn c (h_need_joints.up (by decide)) 2 rfl (da_cons (de_var c 2 rfl (by decide)) da_nil))))))
theorem h_need_all {M : Md} (T : Hs M) (h_need_joints : Has M false 4 "need_joints" ["joints"] m_need_joints) (h_need_longs : Has M false 4 "need_longs" ["longs"] m_need_longs) (h_need_span : Has M false 4 "need_span" ["span"] m_need_span) (F : TopFn M "need_all" s_need_all ["longs", "span", "joints"]) : Has M false 5 "need_all" ["longs", "span", "joints"] m_need_all := has_of F sc_need_all t_need_all rfl rfl (fun X c => b_need_all T h_need_joints h_need_longs h_need_span c)
abbrev s_cut_to : Stmt := topS 32
def B_cut_to : Tb := ⟨["longs", "span", "joints"], [0, 1, 2], [0, 1, 2], [0, 1, 2], ["need_all", "cut_by"], [], true, false, none⟩
theorem sc_cut_to : FnScope B_cut_to.N ["longs", "span", "joints"] (defScope s_cut_to) := ⟨rfl, rfl, rfl, by decide +kernel, rfl, by decide +kernel, by decide +kernel⟩
theorem t_cut_to : fnT B_cut_to (defScope s_cut_to) = true := by decide +kernel
noncomputable def d_cut_to : En → Sto → SR :=
    (sSeq (sExp (eCall m_need_all (aCons (eVar 0) (aCons (eVar 1) (aCons (eVar 2) aNil)))))
    (sRet (eCall m_cut_by (aCons (eVar 0) (aCons (eVar 1) (aCons (eVar 2) aNil))))))
noncomputable def m_cut_to : List Wv → Sto → Rs Wv := mkF 3 3 d_cut_to
theorem b_cut_to {M : Md} {X : Cx} (T : Hs M) (h_cut_by : Has M false 2 "cut_by" ["longs", "span", "joints"] m_cut_by) (h_need_all : Has M false 5 "need_all" ["longs", "span", "joints"] m_need_all) (c : Cxt M X B_cut_to 5) : DB X (defBody s_cut_to) d_cut_to :=
    (db_cons (ds_exp (de_fn c (h_need_all.up (by decide)) 0 rfl (da_cons (de_var c 0 rfl (by decide)) (da_cons (de_var c 1 rfl (by decide)) (da_cons (de_var c 2 rfl (by decide)) da_nil)))))
    (db_one (ds_ret (de_fn c (h_cut_by.up (by decide)) 1 rfl (da_cons (de_var c 0 rfl (by decide)) (da_cons (de_var c 1 rfl (by decide)) (da_cons (de_var c 2 rfl (by decide)) da_nil)))))))
theorem h_cut_to {M : Md} (T : Hs M) (h_cut_by : Has M false 2 "cut_by" ["longs", "span", "joints"] m_cut_by) (h_need_all : Has M false 5 "need_all" ["longs", "span", "joints"] m_need_all) (F : TopFn M "cut_to" s_cut_to ["longs", "span", "joints"]) : Has M false 6 "cut_to" ["longs", "span", "joints"] m_cut_to := has_of F sc_cut_to t_cut_to rfl rfl (fun X c => b_cut_to T h_cut_by h_need_all c)
abbrev s_fits : Stmt := topS 25
def B_fits : Tb := ⟨["longs", "span", "joints"], [0, 1, 2], [0, 1, 2], [0, 1, 2], ["need_all", "fit"], [], true, false, none⟩
theorem sc_fits : FnScope B_fits.N ["longs", "span", "joints"] (defScope s_fits) := ⟨rfl, rfl, rfl, by decide +kernel, rfl, by decide +kernel, by decide +kernel⟩
theorem t_fits : fnT B_fits (defScope s_fits) = true := by decide +kernel
noncomputable def d_fits : En → Sto → SR :=
    (sSeq (sExp (eCall m_need_all (aCons (eVar 0) (aCons (eVar 1) (aCons (eVar 2) aNil)))))
    (sRet (eCall m_fit (aCons (eVar 0) (aCons (eVar 1) (aCons (eVar 2) aNil))))))
noncomputable def m_fits : List Wv → Sto → Rs Wv := mkF 3 3 d_fits
theorem b_fits {M : Md} {X : Cx} (T : Hs M) (h_fit : Has M false 2 "fit" ["longs", "span", "joints"] m_fit) (h_need_all : Has M false 5 "need_all" ["longs", "span", "joints"] m_need_all) (c : Cxt M X B_fits 5) : DB X (defBody s_fits) d_fits :=
    (db_cons (ds_exp (de_fn c (h_need_all.up (by decide)) 0 rfl (da_cons (de_var c 0 rfl (by decide)) (da_cons (de_var c 1 rfl (by decide)) (da_cons (de_var c 2 rfl (by decide)) da_nil)))))
    (db_one (ds_ret (de_fn c (h_fit.up (by decide)) 1 rfl (da_cons (de_var c 0 rfl (by decide)) (da_cons (de_var c 1 rfl (by decide)) (da_cons (de_var c 2 rfl (by decide)) da_nil)))))))
theorem h_fits {M : Md} (T : Hs M) (h_fit : Has M false 2 "fit" ["longs", "span", "joints"] m_fit) (h_need_all : Has M false 5 "need_all" ["longs", "span", "joints"] m_need_all) (F : TopFn M "fits" s_fits ["longs", "span", "joints"]) : Has M false 6 "fits" ["longs", "span", "joints"] m_fits := has_of F sc_fits t_fits rfl rfl (fun X c => b_fits T h_fit h_need_all c)
abbrev s__law_some_right : Stmt := topS 63
def B__law_some_right : Tb := ⟨["_law_longs_here", "_law_spans_here", "_law_joints_here", "_law_clean", "_law_best", "_law_told", "_law_run", "_law_span_here", "_law_cuts_here", ".0"], [0, 1, 2, 3, 4, 5, 6, 7, 8], [0, 1, 2, 3, 4, 5, 6, 7, 8], [0, 1, 3, 4, 5, 6, 7, 8], ["parting", "fewest_cuts", "levels", "levels_hold", "stuck", "all", "zip", "_law_runs", "marks_hold", "cut_marks", "_law_cuts", "cut_to"], ["_law_joints_here"], true, false, none⟩
theorem sc__law_some_right : FnScope B__law_some_right.N ["_law_longs_here", "_law_spans_here", "_law_joints_here"] (defScope s__law_some_right) := ⟨rfl, rfl, rfl, by decide +kernel, rfl, by decide +kernel, by decide +kernel⟩
theorem t__law_some_right : fnT B__law_some_right (defScope s__law_some_right) = true := by decide +kernel
noncomputable def d__law_some_right_l1 : En → Sto → SR :=
    (sWp [6, 7] (sSet 8 (eOp2 addD (eVar 8) (eCall m__law_cuts (aCons (eVar 6) (aCons (eCall m_cut_to (aCons (eVar 6) (aCons (eVar 7) (aCons (eVar 2) aNil)))) aNil))))))
noncomputable def d__law_some_right : En → Sto → SR :=
    (sSeq (sPar2 3 4 (aCons (eCall m_parting (aCons (eVar 0) (aCons (eVar 1) (aCons (eVar 2) aNil)))) (aCons (eCall m_fewest_cuts (aCons (eVar 0) (aCons (eVar 1) (aCons (eVar 2) aNil)))) aNil)))
    (sSeq (sSet 5 (eCall m_levels (aCons (eVar 0) (aCons (eVar 1) (aCons (eVar 2) aNil)))))
    (sSeq (sIf (tNot1 (tTru (eCall m_levels_hold (aCons (eVar 0) (aCons (eVar 1) (aCons (eVar 2) (aCons (eVar 5) aNil))))))) (sRet (eK (.bool false))) sNil)
    (sSeq (sIf (tBl (eOp2 neD (eOp2 eqD (eCall m_stuck (aCons (eVar 0) (aCons (eVar 1) (aCons (eVar 2) aNil)))) (eOp1 negD (eK (.int 1)))) (eOp2 ntND (eVar 3) (eK .none)))) (sRet (eK (.bool false))) sNil)
    (sSeq (sIf (tBl (eOp2 ntND (eVar 3) (eK .none))) (sSeq (sIf (tOr2 (tBl (eOp2 neD (eOp2 ixD (eVar 4) (eK (.int 0))) (eK (.int 0)))) (tBl (eOp2 neD (eOp2 ixD (eVar 4) (eK (.int 1))) (eVar 3)))) (sRet (eK (.bool false))) sNil)
    (sIf (tNot1 (tTru (eOpN allF (aCons (eLc (cZip2 (aCons (eCall m__law_runs (aCons (eVar 0) (aCons (eVar 3) aNil))) (aCons (eVar 1) aNil))) (gTp (gCn (gN 6) (gCn (gN 7) gNl))) tYs (eCall m_fits (aCons (eVar 6) (aCons (eVar 7) (aCons (eVar 2) aNil)))) [9, 6, 7]) aNil)))) (sRet (eK (.bool false))) sNil)) sNil)
    (sSeq (sIf (tBl (eOp2 isND (eVar 4) (eK .none))) (sRet (eCall m_marks_hold (aCons (eVar 0) (aCons (eVar 1) (aCons (eVar 2) (aCons (eK (.int 99)) (aCons (eCall m_cut_marks (aCons (eVar 0) (aCons (eVar 1) (aCons (eVar 2) (aCons (eK (.int 99)) aNil))))) aNil))))))) sNil)
    (sSeq (sSet 8 (eK (.int 0)))
    (sSeq (sFor (cZip2 (aCons (eCall m__law_runs (aCons (eVar 0) (aCons (eOp2 ixD (eVar 4) (eK (.int 1))) aNil))) (aCons (eVar 1) aNil))) (gTp (gCn (gN 6) (gCn (gN 7) gNl))) d__law_some_right_l1)
    (sSeq (sIf (tOr2 (tBl (eOp2 neD (eVar 8) (eOp2 ixD (eVar 4) (eK (.int 0))))) (tBl (eOp2 ntND (eCall m_cut_marks (aCons (eVar 0) (aCons (eVar 1) (aCons (eVar 2) (aCons (eOp2 addD (eOp2 ixD (eVar 4) (eK (.int 0))) (eK (.int 1))) aNil))))) (eK .none)))) (sRet (eK (.bool false))) sNil)
    (sRet (eCall m_marks_hold (aCons (eVar 0) (aCons (eVar 1) (aCons (eVar 2) (aCons (eOp2 ixD (eVar 4) (eK (.int 0))) (aCons (eCall m_cut_marks (aCons (eVar 0) (aCons (eVar 1) (aCons (eVar 2) (aCons (eOp2 ixD (eVar 4) (eK (.int 0))) aNil))))) aNil))))))))))))))))
noncomputable def m__law_some_right : List Wv → Sto → Rs Wv := mkF 3 10 d__law_some_right
theorem b__law_some_right {M : Md} {X : Cx} (T : Hs M) (h__law_cuts : Has M false 1 "_law_cuts" ["_law_one", "_law_other"] m__law_cuts) (h__law_runs : Has M false 1 "_law_runs" ["_law_longs_here", "_law_some"] m__law_runs) (h_cut_marks : Has M false 7 "cut_marks" ["longs", "spans", "joints", "k"] m_cut_marks) (h_cut_to : Has M false 6 "cut_to" ["longs", "span", "joints"] m_cut_to) (h_fewest_cuts : Has M false 6 "fewest_cuts" ["longs", "spans", "joints"] m_fewest_cuts) (h_fits : Has M false 6 "fits" ["longs", "span", "joints"] m_fits) (h_levels : Has M false 6 "levels" ["longs", "spans", "joints"] m_levels) (h_levels_hold : Has M false 6 "levels_hold" ["longs", "spans", "joints", "thing"] m_levels_hold) (h_marks_hold : Has M false 7 "marks_hold" ["longs", "spans", "joints", "k", "thing"] m_marks_hold) (h_parting : Has M false 6 "parting" ["longs", "spans", "joints"] m_parting) (h_stuck : Has M false 6 "stuck" ["longs", "spans", "joints"] m_stuck) (c : Cxt M X B__law_some_right 7) : DB X (defBody s__law_some_right) d__law_some_right :=
    (db_cons (ds_par2 c 3 4 rfl rfl (by decide) (isLoc c (i := 3) (by decide) rfl) (isLoc c (i := 4) (by decide) rfl) (da_cons (de_fn c (h_parting.up (by decide)) 0 rfl (da_cons (de_var c 0 rfl (by decide)) (da_cons (de_var c 1 rfl (by decide)) (da_cons (de_var c 2 rfl (by decide)) da_nil)))) (da_cons (de_fn c (h_fewest_cuts.up (by decide)) 1 rfl (da_cons (de_var c 0 rfl (by decide)) (da_cons (de_var c 1 rfl (by decide)) (da_cons (de_var c 2 rfl (by decide)) da_nil)))) da_nil)) (sw2 c (i := 3) (j := 4) rfl rfl (by decide) (by decide) (by decide +kernel) rfl rfl (by intro _ _ h; cases h) (by intro _ _ h; cases h) rfl rfl))
    (db_cons (ds_set c 5 rfl (by decide) (de_fn c (h_levels.up (by decide)) 2 rfl (da_cons (de_var c 0 rfl (by decide)) (da_cons (de_var c 1 rfl (by decide)) (da_cons (de_var c 2 rfl (by decide)) da_nil)))))
    (db_cons (ds_if (dt_not (dt_val (de_fn c (h_levels_hold.up (by decide)) 3 rfl (da_cons (de_var c 0 rfl (by decide)) (da_cons (de_var c 1 rfl (by decide)) (da_cons (de_var c 2 rfl (by decide)) (da_cons (de_var c 5 rfl (by decide)) da_nil))))))) (db_one (ds_ret de_bl)) db_nil)
    (db_cons (ds_if (dt_cmp (o_ne c.roomH) (de_cmp (o_eq c.roomH) (de_fn c (h_stuck.up (by decide)) 4 rfl (da_cons (de_var c 0 rfl (by decide)) (da_cons (de_var c 1 rfl (by decide)) (da_cons (de_var c 2 rfl (by decide)) da_nil)))) (de_un o_neg de_int) (nomark _)) (de_cmp o_ntN (de_var c 3 rfl (by decide)) de_non (nomark _)) (nomark _)) (db_one (ds_ret de_bl)) db_nil)
    (db_cons (ds_if (dt_cmp o_ntN (de_var c 3 rfl (by decide)) de_non (nomark _)) (db_cons (ds_if (DW.dt (dw_or (dt_cmp (o_ne c.roomH) (de_ix c.roomH (de_var c 4 rfl (by decide)) de_int (fun _ _ => rfl)) de_int (nomark _)) (dw_or1 (dt_cmp (o_ne c.roomH) (de_ix c.roomH (de_var c 4 rfl (by decide)) de_int (fun _ _ => rfl)) (de_var c 3 rfl (by decide)) (nomark _))))) (db_one (ds_ret de_bl)) db_nil)
    (db_one (ds_if (dt_not (dt_val (de_callB (id := "all") c (c_all c.calm) 5 rfl T.z_all (by decide +kernel) (da_cons (de_lc c (lc_ok c [(".0", 9), ("_law_run", 6), ("_law_span_here", 7)] [9, 6, 7, 2] [9, 6, 7] ["fits"] ["_law_joints_here"] (by decide +kernel) (di_zip2 c 6 rfl T.z_zip (da_cons (de_fn c (h__law_runs.up (by decide)) 7 rfl (da_cons (de_var c 0 rfl (by decide)) (da_cons (de_var c 3 rfl (by decide)) da_nil))) (da_cons (de_var c 1 rfl (by decide)) da_nil))) (by decide) (fun _ c10 => (dg_tup c10 (dgs_cons (dg_name c10 [9, 6, 7] 6 rfl (by decide) (by decide)) (dgs_cons (dg_name c10 [9, 6, 7] 7 rfl (by decide) (by decide)) (dgs_nil [9, 6, 7]))) (asks_cons (asks_cons asks_nil)))) (fun _ c10 => dts_nil) (fun _ c10 => (de_fn c10 (h_fits.up (by decide)) 0 rfl (da_cons (de_var c10 6 rfl (by decide)) (da_cons (de_var c10 7 rfl (by decide)) (da_cons (de_var c10 2 rfl (by decide)) da_nil))))))) da_nil)))) (db_one (ds_ret de_bl)) db_nil))) db_nil)
    (db_cons (ds_if (dt_cmp o_isN (de_var c 4 rfl (by decide)) de_non (nomark _)) (db_one (ds_ret (de_fn c (h_marks_hold.up (by decide)) 8 rfl (da_cons (de_var c 0 rfl (by decide)) (da_cons (de_var c 1 rfl (by decide)) (da_cons (de_var c 2 rfl (by decide)) (da_cons de_int (da_cons (de_fn c (h_cut_marks.up (by decide)) 9 rfl (da_cons (de_var c 0 rfl (by decide)) (da_cons (de_var c 1 rfl (by decide)) (da_cons (de_var c 2 rfl (by decide)) (da_cons de_int da_nil))))) da_nil)))))))) db_nil)
    (db_cons (ds_set c 8 rfl (by decide) de_int)
    (db_cons (ds_for c [6, 7] (di_zip2 c 6 rfl T.z_zip (da_cons (de_fn c (h__law_runs.up (by decide)) 7 rfl (da_cons (de_var c 0 rfl (by decide)) (da_cons (de_ix c.roomH (de_var c 4 rfl (by decide)) de_int (fun _ _ => rfl)) da_nil))) (da_cons (de_var c 1 rfl (by decide)) da_nil))) (dg_tup c (dgs_cons (dg_name c [6, 7] 6 rfl (by decide) (by decide)) (dgs_cons (dg_name c [6, 7] 7 rfl (by decide) (by decide)) (dgs_nil [6, 7]))) (asks_cons (asks_cons asks_nil)))
    (db_wp [6, 7] (db_one (ds_set c 8 rfl (by decide) (de_bin o_add (de_var c 8 rfl (by decide)) (de_fn c (h__law_cuts.up (by decide)) 10 rfl (da_cons (de_var c 6 rfl (by decide)) (da_cons (de_fn c (h_cut_to.up (by decide)) 11 rfl (da_cons (de_var c 6 rfl (by decide)) (da_cons (de_var c 7 rfl (by decide)) (da_cons (de_var c 2 rfl (by decide)) da_nil)))) da_nil))))))))
    (db_cons (ds_if (DW.dt (dw_or (dt_cmp (o_ne c.roomH) (de_var c 8 rfl (by decide)) (de_ix c.roomH (de_var c 4 rfl (by decide)) de_int (fun _ _ => rfl)) (nomark _)) (dw_or1 (dt_cmp o_ntN (de_fn c (h_cut_marks.up (by decide)) 9 rfl (da_cons (de_var c 0 rfl (by decide)) (da_cons (de_var c 1 rfl (by decide)) (da_cons (de_var c 2 rfl (by decide)) (da_cons (de_bin o_add (de_ix c.roomH (de_var c 4 rfl (by decide)) de_int (fun _ _ => rfl)) de_int) da_nil))))) de_non (nomark _))))) (db_one (ds_ret de_bl)) db_nil)
    (db_one (ds_ret (de_fn c (h_marks_hold.up (by decide)) 8 rfl (da_cons (de_var c 0 rfl (by decide)) (da_cons (de_var c 1 rfl (by decide)) (da_cons (de_var c 2 rfl (by decide)) (da_cons (de_ix c.roomH (de_var c 4 rfl (by decide)) de_int (fun _ _ => rfl)) (da_cons (de_fn c (h_cut_marks.up (by decide)) 9 rfl (da_cons (de_var c 0 rfl (by decide)) (da_cons (de_var c 1 rfl (by decide)) (da_cons (de_var c 2 rfl (by decide)) (da_cons (de_ix c.roomH (de_var c 4 rfl (by decide)) de_int (fun _ _ => rfl)) da_nil))))) da_nil)))))))))))))))))
theorem h__law_some_right {M : Md} (T : Hs M) (h__law_cuts : Has M false 1 "_law_cuts" ["_law_one", "_law_other"] m__law_cuts) (h__law_runs : Has M false 1 "_law_runs" ["_law_longs_here", "_law_some"] m__law_runs) (h_cut_marks : Has M false 7 "cut_marks" ["longs", "spans", "joints", "k"] m_cut_marks) (h_cut_to : Has M false 6 "cut_to" ["longs", "span", "joints"] m_cut_to) (h_fewest_cuts : Has M false 6 "fewest_cuts" ["longs", "spans", "joints"] m_fewest_cuts) (h_fits : Has M false 6 "fits" ["longs", "span", "joints"] m_fits) (h_levels : Has M false 6 "levels" ["longs", "spans", "joints"] m_levels) (h_levels_hold : Has M false 6 "levels_hold" ["longs", "spans", "joints", "thing"] m_levels_hold) (h_marks_hold : Has M false 7 "marks_hold" ["longs", "spans", "joints", "k", "thing"] m_marks_hold) (h_parting : Has M false 6 "parting" ["longs", "spans", "joints"] m_parting) (h_stuck : Has M false 6 "stuck" ["longs", "spans", "joints"] m_stuck) (F : TopFn M "_law_some_right" s__law_some_right ["_law_longs_here", "_law_spans_here", "_law_joints_here"]) : Has M false 8 "_law_some_right" ["_law_longs_here", "_law_spans_here", "_law_joints_here"] m__law_some_right := has_of F sc__law_some_right t__law_some_right rfl rfl (fun X c => b__law_some_right T h__law_cuts h__law_runs h_cut_marks h_cut_to h_fewest_cuts h_fits h_levels h_levels_hold h_marks_hold h_parting h_stuck c)
abbrev s_spread_by : Stmt := topS 27
def B_spread_by : Tb := ⟨["longs", "span", "many", "rest", "starts", "k", "joint"], [0, 1, 2, 3, 4, 5, 6], [0, 1, 2, 3, 4, 5, 6], [0, 1, 2, 3, 4, 5, 6], ["len", "rest_of", "range", "int", "tuple"], [], true, false, none⟩
theorem sc_spread_by : FnScope B_spread_by.N ["longs", "span"] (defScope s_spread_by) := ⟨rfl, rfl, rfl, by decide +kernel, rfl, by decide +kernel, by decide +kernel⟩
theorem t_spread_by : fnT B_spread_by (defScope s_spread_by) = true := by decide +kernel
noncomputable def d_spread_by_l1 : En → Sto → SR :=
    (sSeq (sSet 6 (eOp2 addD (eOp2 divD (eVar 3) (eVar 2)) (eOpN intF (aCons (eOp2 ltD (eVar 5) (eOp2 modD (eVar 3) (eVar 2))) aNil))))
    (sExp (eM appW (eVar 4) (aCons (eOp2 addD (eOp2 addD (eOp2 ixD (eVar 4) (eOp1 negD (eK (.int 1)))) (eOp2 ixD (eVar 0) (eVar 5))) (eVar 6)) aNil))))
noncomputable def d_spread_by : En → Sto → SR :=
    (sSeq (sSet 2 (eOp2 subD (eOpN lenF (aCons (eVar 0) aNil)) (eK (.int 1))))
    (sSeq (sSet 3 (eCall m_rest_of (aCons (eVar 0) (aCons (eVar 1) aNil))))
    (sSeq (sSet 4 (eNewL (aCons (eK (.int 0)) aNil)))
    (sSeq (sFor (cRg1 (aCons (eVar 2) aNil)) (gN 5) d_spread_by_l1)
    (sRet (eOpN tupF (aCons (eVar 4) aNil)))))))
noncomputable def m_spread_by : List Wv → Sto → Rs Wv := mkF 2 7 d_spread_by
theorem b_spread_by {M : Md} {X : Cx} (T : Hs M) (h_rest_of : Has M false 1 "rest_of" ["longs", "span"] m_rest_of) (c : Cxt M X B_spread_by 1) : DB X (defBody s_spread_by) d_spread_by :=
    (db_cons (ds_set c 2 rfl (by decide) (de_bin o_sub (de_callB (id := "len") c c_len 0 rfl T.z_len (by decide +kernel) (da_cons (de_var c 0 rfl (by decide)) da_nil)) de_int))
    (db_cons (ds_set c 3 rfl (by decide) (de_fn c (h_rest_of.up (by decide)) 1 rfl (da_cons (de_var c 0 rfl (by decide)) (da_cons (de_var c 1 rfl (by decide)) da_nil))))
    (db_cons (ds_set c 4 rfl (by decide) (de_newl (da_cons de_int da_nil)))
    (db_cons (ds_for c [5] (di_range1 c 2 rfl T.z_range (da_cons (de_var c 2 rfl (by decide)) da_nil)) (dg_name c [5] 5 rfl (by decide) (by decide))
    (db_cons (ds_set c 6 rfl (by decide) (de_bin o_add (de_bin o_div (de_var c 3 rfl (by decide)) (de_var c 2 rfl (by decide))) (de_callT (T := "int") c c_int 3 rfl T.z_int (by decide +kernel) (da_cons (de_cmp (o_lt c.roomH) (de_var c 5 rfl (by decide)) (de_bin o_mod (de_var c 3 rfl (by decide)) (de_var c 2 rfl (by decide))) (nomark _)) da_nil))))
    (db_one (ds_exp (de_append (de_var c 4 rfl (by decide)) (da_cons (de_bin o_add (de_bin o_add (de_ix c.roomH (de_var c 4 rfl (by decide)) (de_un o_neg de_int) (fun _ _ => rfl)) (de_ix c.roomH (de_var c 0 rfl (by decide)) (de_var c 5 rfl (by decide)) (fun _ _ => rfl))) (de_var c 6 rfl (by decide))) da_nil))))))
    (db_one (ds_ret (de_callT (T := "tuple") c c_tup 4 rfl T.z_tuple (by decide +kernel) (da_cons (de_var c 4 rfl (by decide)) da_nil))))))))
theorem h_spread_by {M : Md} (T : Hs M) (h_rest_of : Has M false 1 "rest_of" ["longs", "span"] m_rest_of) (F : TopFn M "spread_by" s_spread_by ["longs", "span"]) : Has M false 2 "spread_by" ["longs", "span"] m_spread_by := has_of F sc_spread_by t_spread_by rfl rfl (fun X c => b_spread_by T h_rest_of c)
abbrev s_spread : Stmt := topS 28
def B_spread : Tb := ⟨["longs", "span", "joints"], [0, 1, 2], [0, 1, 2], [0, 1, 2], ["need_all", "fit", "spread_by"], [], true, false, none⟩
theorem sc_spread : FnScope B_spread.N ["longs", "span", "joints"] (defScope s_spread) := ⟨rfl, rfl, rfl, by decide +kernel, rfl, by decide +kernel, by decide +kernel⟩
theorem t_spread : fnT B_spread (defScope s_spread) = true := by decide +kernel
noncomputable def d_spread : En → Sto → SR :=
    (sSeq (sExp (eCall m_need_all (aCons (eVar 0) (aCons (eVar 1) (aCons (eVar 2) aNil)))))
    (sSeq (sIf (tNot1 (tTru (eCall m_fit (aCons (eVar 0) (aCons (eVar 1) (aCons (eVar 2) aNil)))))) (sRet (eK .none)) sNil)
    (sRet (eCall m_spread_by (aCons (eVar 0) (aCons (eVar 1) aNil))))))
noncomputable def m_spread : List Wv → Sto → Rs Wv := mkF 3 3 d_spread
theorem b_spread {M : Md} {X : Cx} (T : Hs M) (h_fit : Has M false 2 "fit" ["longs", "span", "joints"] m_fit) (h_need_all : Has M false 5 "need_all" ["longs", "span", "joints"] m_need_all) (h_spread_by : Has M false 2 "spread_by" ["longs", "span"] m_spread_by) (c : Cxt M X B_spread 5) : DB X (defBody s_spread) d_spread :=
    (db_cons (ds_exp (de_fn c (h_need_all.up (by decide)) 0 rfl (da_cons (de_var c 0 rfl (by decide)) (da_cons (de_var c 1 rfl (by decide)) (da_cons (de_var c 2 rfl (by decide)) da_nil)))))
    (db_cons (ds_if (dt_not (dt_val (de_fn c (h_fit.up (by decide)) 1 rfl (da_cons (de_var c 0 rfl (by decide)) (da_cons (de_var c 1 rfl (by decide)) (da_cons (de_var c 2 rfl (by decide)) da_nil)))))) (db_one (ds_ret de_non)) db_nil)
    (db_one (ds_ret (de_fn c (h_spread_by.up (by decide)) 2 rfl (da_cons (de_var c 0 rfl (by decide)) (da_cons (de_var c 1 rfl (by decide)) da_nil)))))))
theorem h_spread {M : Md} (T : Hs M) (h_fit : Has M false 2 "fit" ["longs", "span", "joints"] m_fit) (h_need_all : Has M false 5 "need_all" ["longs", "span", "joints"] m_need_all) (h_spread_by : Has M false 2 "spread_by" ["longs", "span"] m_spread_by) (F : TopFn M "spread" s_spread ["longs", "span", "joints"]) : Has M false 6 "spread" ["longs", "span", "joints"] m_spread := has_of F sc_spread t_spread rfl rfl (fun X c => b_spread T h_fit h_need_all h_spread_by c)
abbrev s_layings_many : Stmt := topS 26
def B_layings_many : Tb := ⟨["longs", "span", "joints", "rest", "ways", "turn", ".0", "k"], [0, 1, 2, 3, 4, 5], [0, 1, 2, 3, 4, 5], [0, 1, 3, 5], ["need_all", "rest_of", "range", "len"], ["joints", "ways"], true, false, none⟩
theorem sc_layings_many : FnScope B_layings_many.N ["longs", "span", "joints"] (defScope s_layings_many) := ⟨rfl, rfl, rfl, by decide +kernel, rfl, by decide +kernel, by decide +kernel⟩
theorem t_layings_many : fnT B_layings_many (defScope s_layings_many) = true := by decide +kernel
noncomputable def d_layings_many_l1 : En → Sto → SR :=
    (sWp [5] (sSet 4 (eLc (cRg1 (aCons (eOp2 addD (eVar 3) (eK (.int 1))) aNil)) (gN 7) tYs (eOpN sumF (aCons (eSlice (eVar 4) (pSome (eOpN max2F (aCons (eK (.int 0)) (aCons (eOp2 subD (eVar 7) (eOp2 ixD (eVar 2) (eK (.int 1)))) aNil)))) (pSome (eOpN max2F (aCons (eK (.int 0)) (aCons (eOp2 addD (eOp2 subD (eVar 7) (eOp2 ixD (eVar 2) (eK (.int 0)))) (eK (.int 1))) aNil))))) aNil)) [6, 7])))
noncomputable def d_layings_many : En → Sto → SR :=
    (sSeq (sExp (eCall m_need_all (aCons (eVar 0) (aCons (eVar 1) (aCons (eVar 2) aNil)))))
    (sSeq (sSet 3 (eCall m_rest_of (aCons (eVar 0) (aCons (eVar 1) aNil))))
    (sSeq (sIf (tBl (eOp2 ltD (eVar 3) (eK (.int 0)))) (sRet (eK (.int 0))) sNil)
    (sSeq (sSet 4 (eOp2 addD (eLst (aCons (eK (.int 1)) aNil)) (eOp2 mulD (eLst (aCons (eK (.int 0)) aNil)) (eVar 3))))
    (sSeq (sFor (cRg1 (aCons (eOp2 subD (eOpN lenF (aCons (eVar 0) aNil)) (eK (.int 1))) aNil)) (gN 5) d_layings_many_l1)
    (sRet (eOp2 ixD (eVar 4) (eVar 3))))))))
noncomputable def m_layings_many : List Wv → Sto → Rs Wv := mkF 3 8 d_layings_many
theorem b_layings_many {M : Md} {X : Cx} (T : Hs M) (h_need_all : Has M false 5 "need_all" ["longs", "span", "joints"] m_need_all) (h_rest_of : Has M false 1 "rest_of" ["longs", "span"] m_rest_of) (c : Cxt M X B_layings_many 5) : DB X (defBody s_layings_many) d_layings_many :=
    (db_cons (ds_exp (de_fn c (h_need_all.up (by decide)) 0 rfl (da_cons (de_var c 0 rfl (by decide)) (da_cons (de_var c 1 rfl (by decide)) (da_cons (de_var c 2 rfl (by decide)) da_nil)))))
    (db_cons (ds_set c 3 rfl (by decide) (de_fn c (h_rest_of.up (by decide)) 1 rfl (da_cons (de_var c 0 rfl (by decide)) (da_cons (de_var c 1 rfl (by decide)) da_nil))))
    (db_cons (ds_if (dt_cmp (o_lt c.roomH) (de_var c 3 rfl (by decide)) de_int (nomark _)) (db_one (ds_ret de_int)) db_nil)
    (db_cons (ds_set c 4 rfl (by decide) (de_bin o_add (de_lst (da_cons de_int da_nil)) (de_bin o_mul (de_lst (da_cons de_int da_nil)) (de_var c 3 rfl (by decide)))))
    (db_cons (ds_for c [5] (di_range1 c 2 rfl T.z_range (da_cons (de_bin o_sub (de_callB (id := "len") c c_len 3 rfl T.z_len (by decide +kernel) (da_cons (de_var c 0 rfl (by decide)) da_nil)) de_int) da_nil)) (dg_name c [5] 5 rfl (by decide) (by decide))
    (db_wp [5] (db_one (ds_set c 4 rfl (by decide) (de_lc c (lc_ok c [(".0", 6), ("k", 7)] [6, 7, 2, 4] [6, 7] ["sum", "max"] ["joints", "ways"] (by decide +kernel) (di_range1 c 2 rfl T.z_range (da_cons (de_bin o_add (de_var c 3 rfl (by decide)) de_int) da_nil)) (by decide) (fun _ c11 => (dg_name c11 [6, 7] 7 rfl (by decide) (by decide))) (fun _ c11 => dts_nil) (fun _ c11 => (de_callB (id := "sum") c11 (c_sum c11.calm) 0 rfl T.z_sum (by decide +kernel) (da_cons (de_slice (de_var c11 4 rfl (by decide)) (do_some (de_callB (id := "max") c11 (c_max2 c11.calm) 1 rfl T.z_max (by decide +kernel) (da_cons de_int (da_cons (de_bin o_sub (de_var c11 7 rfl (by decide)) (de_ix c11.roomH (de_var c11 2 rfl (by decide)) de_int (fun _ _ => rfl))) da_nil)))) (do_some (de_callB (id := "max") c11 (c_max2 c11.calm) 1 rfl T.z_max (by decide +kernel) (da_cons de_int (da_cons (de_bin o_add (de_bin o_sub (de_var c11 7 rfl (by decide)) (de_ix c11.roomH (de_var c11 2 rfl (by decide)) de_int (fun _ _ => rfl))) de_int) da_nil))))) da_nil))))) (hs := sw_cell c (by decide +kernel))))))
    (db_one (ds_ret (de_ix c.roomH (de_var c 4 rfl (by decide)) (de_var c 3 rfl (by decide)) (fun _ _ => rfl)))))))))
theorem h_layings_many {M : Md} (T : Hs M) (h_need_all : Has M false 5 "need_all" ["longs", "span", "joints"] m_need_all) (h_rest_of : Has M false 1 "rest_of" ["longs", "span"] m_rest_of) (F : TopFn M "layings_many" s_layings_many ["longs", "span", "joints"]) : Has M false 6 "layings_many" ["longs", "span", "joints"] m_layings_many := has_of F sc_layings_many t_layings_many rfl rfl (fun X c => b_layings_many T h_need_all h_rest_of c)
abbrev s_tight : Stmt := topS 29
def B_tight : Tb := ⟨["longs", "span", "joints", "many", "rest"], [0, 1, 2, 3, 4], [0, 1, 2, 3, 4], [0, 1, 2, 3, 4], ["need_all", "fit", "len", "rest_of"], [], true, false, none⟩
theorem sc_tight : FnScope B_tight.N ["longs", "span", "joints"] (defScope s_tight) := ⟨rfl, rfl, rfl, by decide +kernel, rfl, by decide +kernel, by decide +kernel⟩
theorem t_tight : fnT B_tight (defScope s_tight) = true := by decide +kernel
noncomputable def d_tight : En → Sto → SR :=
    (sSeq (sExp (eCall m_need_all (aCons (eVar 0) (aCons (eVar 1) (aCons (eVar 2) aNil)))))
    (sSeq (sIf (tNot1 (tTru (eCall m_fit (aCons (eVar 0) (aCons (eVar 1) (aCons (eVar 2) aNil)))))) (sRet (eK .none)) sNil)
    (sSeq (sSet 3 (eOp2 subD (eOpN lenF (aCons (eVar 0) aNil)) (eK (.int 1))))
    (sSeq (sSet 4 (eCall m_rest_of (aCons (eVar 0) (aCons (eVar 1) aNil))))
    (sRet (eTup (aCons (eOp2 subD (eOp2 mulD (eVar 3) (eOp2 ixD (eVar 2) (eK (.int 1)))) (eVar 4)) (aCons (eOp2 subD (eVar 4) (eOp2 mulD (eVar 3) (eOp2 ixD (eVar 2) (eK (.int 0))))) aNil))))))))
noncomputable def m_tight : List Wv → Sto → Rs Wv := mkF 3 5 d_tight
theorem b_tight {M : Md} {X : Cx} (T : Hs M) (h_fit : Has M false 2 "fit" ["longs", "span", "joints"] m_fit) (h_need_all : Has M false 5 "need_all" ["longs", "span", "joints"] m_need_all) (h_rest_of : Has M false 1 "rest_of" ["longs", "span"] m_rest_of) (c : Cxt M X B_tight 5) : DB X (defBody s_tight) d_tight :=
    (db_cons (ds_exp (de_fn c (h_need_all.up (by decide)) 0 rfl (da_cons (de_var c 0 rfl (by decide)) (da_cons (de_var c 1 rfl (by decide)) (da_cons (de_var c 2 rfl (by decide)) da_nil)))))
    (db_cons (ds_if (dt_not (dt_val (de_fn c (h_fit.up (by decide)) 1 rfl (da_cons (de_var c 0 rfl (by decide)) (da_cons (de_var c 1 rfl (by decide)) (da_cons (de_var c 2 rfl (by decide)) da_nil)))))) (db_one (ds_ret de_non)) db_nil)
    (db_cons (ds_set c 3 rfl (by decide) (de_bin o_sub (de_callB (id := "len") c c_len 2 rfl T.z_len (by decide +kernel) (da_cons (de_var c 0 rfl (by decide)) da_nil)) de_int))
    (db_cons (ds_set c 4 rfl (by decide) (de_fn c (h_rest_of.up (by decide)) 3 rfl (da_cons (de_var c 0 rfl (by decide)) (da_cons (de_var c 1 rfl (by decide)) da_nil))))
    (db_one (ds_ret (de_tup (da_cons (de_bin o_sub (de_bin o_mul (de_var c 3 rfl (by decide)) (de_ix c.roomH (de_var c 2 rfl (by decide)) de_int (fun _ _ => rfl))) (de_var c 4 rfl (by decide))) (da_cons (de_bin o_sub (de_var c 4 rfl (by decide)) (de_bin o_mul (de_var c 3 rfl (by decide)) (de_ix c.roomH (de_var c 2 rfl (by decide)) de_int (fun _ _ => rfl)))) da_nil)))))))))
theorem h_tight {M : Md} (T : Hs M) (h_fit : Has M false 2 "fit" ["longs", "span", "joints"] m_fit) (h_need_all : Has M false 5 "need_all" ["longs", "span", "joints"] m_need_all) (h_rest_of : Has M false 1 "rest_of" ["longs", "span"] m_rest_of) (F : TopFn M "tight" s_tight ["longs", "span", "joints"]) : Has M false 6 "tight" ["longs", "span", "joints"] m_tight := has_of F sc_tight t_tight rfl rfl (fun X c => b_tight T h_fit h_need_all h_rest_of c)
abbrev s_is_laid : Stmt := topS 23
def B_is_laid : Tb := ⟨["longs", "span", "joints", "thing", "end", "start", "long"], [0, 1, 2, 3, 4, 5, 6], [0, 1, 2, 3, 4, 5, 6], [0, 1, 2, 3, 4, 5, 6], ["isinstance", "tuple", "len", "zip", "is_from_to"], [], true, false, none⟩
theorem sc_is_laid : FnScope B_is_laid.N ["longs", "span", "joints", "thing"] (defScope s_is_laid) := ⟨rfl, rfl, rfl, by decide +kernel, rfl, by decide +kernel, by decide +kernel⟩
theorem t_is_laid : fnT B_is_laid (defScope s_is_laid) = true := by decide +kernel
noncomputable def d_is_laid_l1 : En → Sto → SR :=
    (sWp [5, 6] (sSeq (sIf (tBl (eOp2 isND (eVar 4) (eK .none))) (sIf (tNot1 (tTru (eCall m_is_from_to (aCons (eVar 5) (aCons (eK (.int 0)) (aCons (eK (.int 0)) aNil)))))) (sRet (eK (.bool false))) sNil) (sIf (tNot1 (tTru (eCall m_is_from_to (aCons (eVar 5) (aCons (eOp2 addD (eVar 4) (eOp2 ixD (eVar 2) (eK (.int 0)))) (aCons (eOp2 addD (eVar 4) (eOp2 ixD (eVar 2) (eK (.int 1)))) aNil)))))) (sRet (eK (.bool false))) sNil))
    (sSet 4 (eOp2 addD (eVar 5) (eVar 6)))))
noncomputable def d_is_laid : En → Sto → SR :=
    (sSeq (sIf (tOr2 (tNot1 (tTru (eOp1 (isaD "tuple") (eVar 3)))) (tBl (eOp2 neD (eOpN lenF (aCons (eVar 3) aNil)) (eOpN lenF (aCons (eVar 0) aNil))))) (sRet (eK (.bool false))) sNil)
    (sSeq (sSet 4 (eK .none))
    (sSeq (sFor (cZip2 (aCons (eVar 3) (aCons (eVar 0) aNil))) (gTp (gCn (gN 5) (gCn (gN 6) gNl))) d_is_laid_l1)
    (sRet (eOp2 eqD (eVar 4) (eVar 1))))))
noncomputable def m_is_laid : List Wv → Sto → Rs Wv := mkF 4 7 d_is_laid
theorem b_is_laid {M : Md} {X : Cx} (T : Hs M) (h_is_from_to : Has M false 2 "is_from_to" ["thing", "least", "most"] m_is_from_to) (c : Cxt M X B_is_laid 2) : DB X (defBody s_is_laid) d_is_laid :=
    (db_cons (ds_if (DW.dt (dw_or (dt_not (dt_val (de_isa c 0 1 rfl T.z_isinstance rfl T.z_tuple (by decide +kernel) (de_var c 3 rfl (by decide))))) (dw_or1 (dt_cmp (o_ne c.roomH) (de_callB (id := "len") c c_len 2 rfl T.z_len (by decide +kernel) (da_cons (de_var c 3 rfl (by decide)) da_nil)) (de_callB (id := "len") c c_len 2 rfl T.z_len (by decide +kernel) (da_cons (de_var c 0 rfl (by decide)) da_nil)) (nomark _))))) (db_one (ds_ret de_bl)) db_nil)
    (db_cons (ds_set c 4 rfl (by decide) de_non)
    (db_cons (ds_for c [5, 6] (di_zip2 c 3 rfl T.z_zip (da_cons (de_var c 3 rfl (by decide)) (da_cons (de_var c 0 rfl (by decide)) da_nil))) (dg_tup c (dgs_cons (dg_name c [5, 6] 5 rfl (by decide) (by decide)) (dgs_cons (dg_name c [5, 6] 6 rfl (by decide) (by decide)) (dgs_nil [5, 6]))) (asks_cons (asks_cons asks_nil)))
    (db_wp [5, 6] (db_cons (ds_if (dt_cmp o_isN (de_var c 4 rfl (by decide)) de_non (nomark _)) (db_one (ds_if (dt_not (dt_val (de_fn c (h_is_from_to.up (by decide)) 4 rfl (da_cons (de_var c 5 rfl (by decide)) (da_cons de_int (da_cons de_int da_nil)))))) (db_one (ds_ret de_bl)) db_nil)) (db_one (ds_if (dt_not (dt_val (de_fn c (h_is_from_to.up (by decide)) 4 rfl (da_cons (de_var c 5 rfl (by decide)) (da_cons (de_bin o_add (de_var c 4 rfl (by decide)) (de_ix c.roomH (de_var c 2 rfl (by decide)) de_int (fun _ _ => rfl))) (da_cons (de_bin o_add (de_var c 4 rfl (by decide)) (de_ix c.roomH (de_var c 2 rfl (by decide)) de_int (fun _ _ => rfl))) da_nil)))))) (db_one (ds_ret de_bl)) db_nil)))
    (db_one (ds_set c 4 rfl (by decide) (de_bin o_add (de_var c 5 rfl (by decide)) (de_var c 6 rfl (by decide))))))))
    (db_one (ds_ret (de_cmp (o_eq c.roomH) (de_var c 4 rfl (by decide)) (de_var c 1 rfl (by decide)) (nomark _)))))))
theorem h_is_laid {M : Md} (T : Hs M) (h_is_from_to : Has M false 2 "is_from_to" ["thing", "least", "most"] m_is_from_to) (F : TopFn M "is_laid" s_is_laid ["longs", "span", "joints", "thing"]) : Has M false 3 "is_laid" ["longs", "span", "joints", "thing"] m_is_laid := has_of F sc_is_laid t_is_laid rfl rfl (fun X c => b_is_laid T h_is_from_to c)
abbrev s_is_laying : Stmt := topS 24
def B_is_laying : Tb := ⟨["longs", "span", "joints", "thing"], [0, 1, 2, 3], [0, 1, 2, 3], [0, 1, 2, 3], ["need_all", "is_laid"], [], true, false, none⟩
theorem sc_is_laying : FnScope B_is_laying.N ["longs", "span", "joints", "thing"] (defScope s_is_laying) := ⟨rfl, rfl, rfl, by decide +kernel, rfl, by decide +kernel, by decide +kernel⟩
theorem t_is_laying : fnT B_is_laying (defScope s_is_laying) = true := by decide +kernel
noncomputable def d_is_laying : En → Sto → SR :=
    (sSeq (sExp (eCall m_need_all (aCons (eVar 0) (aCons (eVar 1) (aCons (eVar 2) aNil)))))
    (sRet (eCall m_is_laid (aCons (eVar 0) (aCons (eVar 1) (aCons (eVar 2) (aCons (eVar 3) aNil)))))))
noncomputable def m_is_laying : List Wv → Sto → Rs Wv := mkF 4 4 d_is_laying
theorem b_is_laying {M : Md} {X : Cx} (T : Hs M) (h_is_laid : Has M false 3 "is_laid" ["longs", "span", "joints", "thing"] m_is_laid) (h_need_all : Has M false 5 "need_all" ["longs", "span", "joints"] m_need_all) (c : Cxt M X B_is_laying 5) : DB X (defBody s_is_laying) d_is_laying :=
    (db_cons (ds_exp (de_fn c (h_need_all.up (by decide)) 0 rfl (da_cons (de_var c 0 rfl (by decide)) (da_cons (de_var c 1 rfl (by decide)) (da_cons (de_var c 2 rfl (by decide)) da_nil)))))
    (db_one (ds_ret (de_fn c (h_is_laid.up (by decide)) 1 rfl (da_cons (de_var c 0 rfl (by decide)) (da_cons (de_var c 1 rfl (by decide)) (da_cons (de_var c 2 rfl (by decide)) (da_cons (de_var c 3 rfl (by decide)) da_nil))))))))
theorem h_is_laying {M : Md} (T : Hs M) (h_is_laid : Has M false 3 "is_laid" ["longs", "span", "joints", "thing"] m_is_laid) (h_need_all : Has M false 5 "need_all" ["longs", "span", "joints"] m_need_all) (F : TopFn M "is_laying" s_is_laying ["longs", "span", "joints", "thing"]) : Has M false 6 "is_laying" ["longs", "span", "joints", "thing"] m_is_laying := has_of F sc_is_laying t_is_laying rfl rfl (fun X c => b_is_laying T h_is_laid h_need_all c)
abbrev s__law_one_right : Stmt := topS 62
def B__law_one_right : Tb := ⟨["_law_longs_here", "_law_span_here", "_law_joints_here", "_law_good", "_law_even", "_law_wide", "_law_cut", ".0", "_law_long", "_law_here"], [0, 1, 2, 3, 4, 5, 6], [0, 1, 2, 3, 4, 5, 6], [0, 1, 2, 3, 4, 5, 6], ["fits", "layings_many", "tight", "spread", "is_laying", "min", "cut_to", "len", "all", "zip"], [], true, false, none⟩
theorem sc__law_one_right : FnScope B__law_one_right.N ["_law_longs_here", "_law_span_here", "_law_joints_here"] (defScope s__law_one_right) := ⟨rfl, rfl, rfl, by decide +kernel, rfl, by decide +kernel, by decide +kernel⟩
theorem t__law_one_right : fnT B__law_one_right (defScope s__law_one_right) = true := by decide +kernel
noncomputable def d__law_one_right : En → Sto → SR :=
    (sSeq (sSet 3 (eCall m_fits (aCons (eVar 0) (aCons (eVar 1) (aCons (eVar 2) aNil)))))
    (sSeq (sIf (tBl (eOp2 neD (eVar 3) (eOp2 gtD (eCall m_layings_many (aCons (eVar 0) (aCons (eVar 1) (aCons (eVar 2) aNil)))) (eK (.int 0))))) (sRet (eK (.bool false))) sNil)
    (sSeq (sIf (tBl (eOp2 neD (eVar 3) (eOp2 ntND (eCall m_tight (aCons (eVar 0) (aCons (eVar 1) (aCons (eVar 2) aNil)))) (eK .none)))) (sRet (eK (.bool false))) sNil)
    (sSeq (sSet 4 (eCall m_spread (aCons (eVar 0) (aCons (eVar 1) (aCons (eVar 2) aNil)))))
    (sSeq (sIf (tAnd2 (tTru (eVar 3)) (tNot1 (tTru (eCall m_is_laying (aCons (eVar 0) (aCons (eVar 1) (aCons (eVar 2) (aCons (eVar 4) aNil)))))))) (sRet (eK (.bool false))) sNil)
    (sSeq (sSet 5 (eTup (aCons (eOp2 ixD (eVar 2) (eK (.int 0))) (aCons (eOpN min2F (aCons (eK (.int 9)) (aCons (eOp2 addD (eOp2 ixD (eVar 2) (eK (.int 1))) (eK (.int 1))) aNil))) aNil))))
    (sSeq (sIf (tBl (eOp2 ltD (eCall m_layings_many (aCons (eVar 0) (aCons (eVar 1) (aCons (eVar 5) aNil)))) (eCall m_layings_many (aCons (eVar 0) (aCons (eVar 1) (aCons (eVar 2) aNil)))))) (sRet (eK (.bool false))) sNil)
    (sSeq (sSet 6 (eCall m_cut_to (aCons (eVar 0) (aCons (eVar 1) (aCons (eVar 2) aNil)))))
    (sSeq (sIf (tBl (eOp2 isND (eVar 6) (eK .none))) (sRet (eNot1 (eVar 3))) sNil)
    (sSeq (sIf (tOr2 (tNot1 (tTru (eCall m_fits (aCons (eVar 6) (aCons (eVar 1) (aCons (eVar 2) aNil)))))) (tOr2 (tBl (eOp2 neD (eCall m_cut_to (aCons (eVar 6) (aCons (eVar 1) (aCons (eVar 2) aNil)))) (eVar 6))) (tAnd2 (tTru (eVar 3)) (tBl (eOp2 neD (eVar 6) (eVar 0)))))) (sRet (eK (.bool false))) sNil)
    (sRet (eAnd2 (eOp2 eqD (eOpN lenF (aCons (eVar 6) aNil)) (eOpN lenF (aCons (eVar 0) aNil))) (eOpN allF (aCons (eLc (cZip2 (aCons (eVar 0) (aCons (eVar 6) aNil))) (gTp (gCn (gN 8) (gCn (gN 9) gNl))) tYs (eChain leD leD (eK (.int 1)) (eVar 9) (eVar 8)) [7, 8, 9]) aNil))))))))))))))
noncomputable def m__law_one_right : List Wv → Sto → Rs Wv := mkF 3 10 d__law_one_right
theorem b__law_one_right {M : Md} {X : Cx} (T : Hs M) (h_cut_to : Has M false 6 "cut_to" ["longs", "span", "joints"] m_cut_to) (h_fits : Has M false 6 "fits" ["longs", "span", "joints"] m_fits) (h_is_laying : Has M false 6 "is_laying" ["longs", "span", "joints", "thing"] m_is_laying) (h_layings_many : Has M false 6 "layings_many" ["longs", "span", "joints"] m_layings_many) (h_spread : Has M false 6 "spread" ["longs", "span", "joints"] m_spread) (h_tight : Has M false 6 "tight" ["longs", "span", "joints"] m_tight) (c : Cxt M X B__law_one_right 6) : DB X (defBody s__law_one_right) d__law_one_right :=
    (db_cons (ds_set c 3 rfl (by decide) (de_fn c (h_fits.up (by decide)) 0 rfl (da_cons (de_var c 0 rfl (by decide)) (da_cons (de_var c 1 rfl (by decide)) (da_cons (de_var c 2 rfl (by decide)) da_nil)))))
    (db_cons (ds_if (dt_cmp (o_ne c.roomH) (de_var c 3 rfl (by decide)) (de_cmp (o_gt c.roomH) (de_fn c (h_layings_many.up (by decide)) 1 rfl (da_cons (de_var c 0 rfl (by decide)) (da_cons (de_var c 1 rfl (by decide)) (da_cons (de_var c 2 rfl (by decide)) da_nil)))) de_int (nomark _)) (nomark _)) (db_one (ds_ret de_bl)) db_nil)
    (db_cons (ds_if (dt_cmp (o_ne c.roomH) (de_var c 3 rfl (by decide)) (de_cmp o_ntN (de_fn c (h_tight.up (by decide)) 2 rfl (da_cons (de_var c 0 rfl (by decide)) (da_cons (de_var c 1 rfl (by decide)) (da_cons (de_var c 2 rfl (by decide)) da_nil)))) de_non (nomark _)) (nomark _)) (db_one (ds_ret de_bl)) db_nil)
    (db_cons (ds_set c 4 rfl (by decide) (de_fn c (h_spread.up (by decide)) 3 rfl (da_cons (de_var c 0 rfl (by decide)) (da_cons (de_var c 1 rfl (by decide)) (da_cons (de_var c 2 rfl (by decide)) da_nil)))))
    (db_cons (ds_if (DW.dt (dw_and (dt_val (de_var c 3 rfl (by decide))) (dw_and1 (dt_not (dt_val (de_fn c (h_is_laying.up (by decide)) 4 rfl (da_cons (de_var c 0 rfl (by decide)) (da_cons (de_var c 1 rfl (by decide)) (da_cons (de_var c 2 rfl (by decide)) (da_cons (de_var c 4 rfl (by decide)) da_nil)))))))))) (db_one (ds_ret de_bl)) db_nil)
    (db_cons (ds_set c 5 rfl (by decide) (de_tup (da_cons (de_ix c.roomH (de_var c 2 rfl (by decide)) de_int (fun _ _ => rfl)) (da_cons (de_callB (id := "min") c (c_min2 c.calm) 5 rfl T.z_min (by decide +kernel) (da_cons de_int (da_cons (de_bin o_add (de_ix c.roomH (de_var c 2 rfl (by decide)) de_int (fun _ _ => rfl)) de_int) da_nil))) da_nil))))
    (db_cons (ds_if (dt_cmp (o_lt c.roomH) (de_fn c (h_layings_many.up (by decide)) 1 rfl (da_cons (de_var c 0 rfl (by decide)) (da_cons (de_var c 1 rfl (by decide)) (da_cons (de_var c 5 rfl (by decide)) da_nil)))) (de_fn c (h_layings_many.up (by decide)) 1 rfl (da_cons (de_var c 0 rfl (by decide)) (da_cons (de_var c 1 rfl (by decide)) (da_cons (de_var c 2 rfl (by decide)) da_nil)))) (nomark _)) (db_one (ds_ret de_bl)) db_nil)
    (db_cons (ds_set c 6 rfl (by decide) (de_fn c (h_cut_to.up (by decide)) 6 rfl (da_cons (de_var c 0 rfl (by decide)) (da_cons (de_var c 1 rfl (by decide)) (da_cons (de_var c 2 rfl (by decide)) da_nil)))))
    (db_cons (ds_if (dt_cmp o_isN (de_var c 6 rfl (by decide)) de_non (nomark _)) (db_one (ds_ret (de_not (de_var c 3 rfl (by decide))))) db_nil)
    (db_cons (ds_if (DW.dt (dw_or (dt_not (dt_val (de_fn c (h_fits.up (by decide)) 0 rfl (da_cons (de_var c 6 rfl (by decide)) (da_cons (de_var c 1 rfl (by decide)) (da_cons (de_var c 2 rfl (by decide)) da_nil)))))) (dw_or (dt_cmp (o_ne c.roomH) (de_fn c (h_cut_to.up (by decide)) 6 rfl (da_cons (de_var c 6 rfl (by decide)) (da_cons (de_var c 1 rfl (by decide)) (da_cons (de_var c 2 rfl (by decide)) da_nil)))) (de_var c 6 rfl (by decide)) (nomark _)) (dw_or1 (DW.dt (dw_and (dt_val (de_var c 3 rfl (by decide))) (dw_and1 (dt_cmp (o_ne c.roomH) (de_var c 6 rfl (by decide)) (de_var c 0 rfl (by decide)) (nomark _))))))))) (db_one (ds_ret de_bl)) db_nil)
    (db_one (ds_ret (de_and (de_cmp (o_eq c.roomH) (de_callB (id := "len") c c_len 7 rfl T.z_len (by decide +kernel) (da_cons (de_var c 6 rfl (by decide)) da_nil)) (de_callB (id := "len") c c_len 7 rfl T.z_len (by decide +kernel) (da_cons (de_var c 0 rfl (by decide)) da_nil)) (nomark _)) (de_one (de_callB (id := "all") c (c_all c.calm) 8 rfl T.z_all (by decide +kernel) (da_cons (de_lc c (lc_ok c [(".0", 7), ("_law_long", 8), ("_law_here", 9)] [7, 8, 9] [7, 8, 9] [] [] (by decide +kernel) (di_zip2 c 9 rfl T.z_zip (da_cons (de_var c 0 rfl (by decide)) (da_cons (de_var c 6 rfl (by decide)) da_nil))) (by decide) (fun _ c12 => (dg_tup c12 (dgs_cons (dg_name c12 [7, 8, 9] 8 rfl (by decide) (by decide)) (dgs_cons (dg_name c12 [7, 8, 9] 9 rfl (by decide) (by decide)) (dgs_nil [7, 8, 9]))) (asks_cons (asks_cons asks_nil)))) (fun _ c12 => dts_nil) (fun _ c12 => (de_chain (o_le c12.roomH) (o_le c12.roomH) de_int (de_var c12 9 rfl (by decide)) (de_var c12 8 rfl (by decide)))))) da_nil))))))))))))))))
theorem h__law_one_right {M : Md} (T : Hs M) (h_cut_to : Has M false 6 "cut_to" ["longs", "span", "joints"] m_cut_to) (h_fits : Has M false 6 "fits" ["longs", "span", "joints"] m_fits) (h_is_laying : Has M false 6 "is_laying" ["longs", "span", "joints", "thing"] m_is_laying) (h_layings_many : Has M false 6 "layings_many" ["longs", "span", "joints"] m_layings_many) (h_spread : Has M false 6 "spread" ["longs", "span", "joints"] m_spread) (h_tight : Has M false 6 "tight" ["longs", "span", "joints"] m_tight) (F : TopFn M "_law_one_right" s__law_one_right ["_law_longs_here", "_law_span_here", "_law_joints_here"]) : Has M false 7 "_law_one_right" ["_law_longs_here", "_law_span_here", "_law_joints_here"] m__law_one_right := has_of F sc__law_one_right t__law_one_right rfl rfl (fun X c => b__law_one_right T h_cut_to h_fits h_is_laying h_layings_many h_spread h_tight c)
abbrev s__law_spans : Stmt := topS 59
def B__law_spans : Tb := ⟨["_law_pen", "_law_longs_here", "_law_joints_here", "_law_found", "_law_done", "_law_many"], [0, 1, 2, 3, 4, 5], [0, 1, 2, 3, 4, 5], [0, 1, 2, 3, 4, 5], ["len", "_law_draw", "_law_span", "tuple", "int"], [], true, false, none⟩
theorem sc__law_spans : FnScope B__law_spans.N ["_law_pen", "_law_longs_here", "_law_joints_here"] (defScope s__law_spans) := ⟨rfl, rfl, rfl, by decide +kernel, rfl, by decide +kernel, by decide +kernel⟩
theorem t__law_spans : fnT B__law_spans (defScope s__law_spans) = true := by decide +kernel
noncomputable def d__law_spans : En → Sto → SR :=
    (sSeq (sPar2 3 4 (aCons (eNewL aNil) (aCons (eK (.int 0)) aNil)))
    (sSeq (sWh 100000 (tAnd2 (tBl (eOp2 ltD (eVar 4) (eOpN lenF (aCons (eVar 1) aNil)))) (tBl (eOp2 ltD (eOpN lenF (aCons (eVar 3) aNil)) (eK (.int 6))))) (sWp [5] (sSeq (sSet 5 (eOp2 addD (eK (.int 1)) (eCall m__law_draw (aCons (eVar 0) (aCons (eK (.int 4)) aNil)))))
    (sSeq (sExp (eM appW (eVar 3) (aCons (eCall m__law_span (aCons (eVar 0) (aCons (eSlice (eVar 1) (pSome (eVar 4)) (pSome (eOp2 addD (eVar 4) (eVar 5)))) (aCons (eVar 2) aNil)))) aNil)))
    (sSet 4 (eOp2 addD (eVar 4) (eVar 5)))))))
    (sRet (eSlice (eOpN tupF (aCons (eOp2 addD (eVar 3) (eOp2 mulD (eLst (aCons (eOp2 addD (eK (.int 1)) (eCall m__law_draw (aCons (eVar 0) (aCons (eK (.int 40)) aNil)))) aNil)) (eOpN intF (aCons (eOp2 eqD (eCall m__law_draw (aCons (eVar 0) (aCons (eK (.int 9)) aNil))) (eK (.int 0))) aNil)))) aNil)) pNo (pSome (eK (.int 6)))))))
noncomputable def m__law_spans : List Wv → Sto → Rs Wv := mkF 3 6 d__law_spans
theorem b__law_spans {M : Md} {X : Cx} (T : Hs M) (h__law_draw : Has M false 2 "_law_draw" ["_law_pen", "_law_many"] m__law_draw) (h__law_span : Has M false 3 "_law_span" ["_law_pen", "_law_longs_here", "_law_joints_here"] m__law_span) (c : Cxt M X B__law_spans 3) : DB X (defBody s__law_spans) d__law_spans :=
    (db_cons (ds_par2 c 3 4 rfl rfl (by decide) (isLoc c (i := 3) (by decide) rfl) (isLoc c (i := 4) (by decide) rfl) (da_cons (de_newl da_nil) (da_cons de_int da_nil)) (sw2 c (i := 3) (j := 4) rfl rfl (by decide) (by decide) (by decide +kernel) rfl rfl (by intro _ _ h; cases h) (by intro _ _ h; cases h) rfl rfl))
    (db_cons (ds_wh c 100000 (DW.dt (dw_and (dt_cmp (o_lt c.roomH) (de_var c 4 rfl (by decide)) (de_callB (id := "len") c c_len 0 rfl T.z_len (by decide +kernel) (da_cons (de_var c 1 rfl (by decide)) da_nil)) (nomark _)) (dw_and1 (dt_cmp (o_lt c.roomH) (de_callB (id := "len") c c_len 0 rfl T.z_len (by decide +kernel) (da_cons (de_var c 3 rfl (by decide)) da_nil)) de_int (nomark _))))) (db_wp [5] (db_cons (ds_set c 5 rfl (by decide) (de_bin o_add de_int (de_fn c (h__law_draw.up (by decide)) 1 rfl (da_cons (de_var c 0 rfl (by decide)) (da_cons de_int da_nil)))))
    (db_cons (ds_exp (de_append (de_var c 3 rfl (by decide)) (da_cons (de_fn c (h__law_span.up (by decide)) 2 rfl (da_cons (de_var c 0 rfl (by decide)) (da_cons (de_slice (de_var c 1 rfl (by decide)) (do_some (de_var c 4 rfl (by decide))) (do_some (de_bin o_add (de_var c 4 rfl (by decide)) (de_var c 5 rfl (by decide))))) (da_cons (de_var c 2 rfl (by decide)) da_nil)))) da_nil)))
    (db_one (ds_set c 4 rfl (by decide) (de_bin o_add (de_var c 4 rfl (by decide)) (de_var c 5 rfl (by decide)))))))))
    (db_one (ds_ret (de_slice (de_callT (T := "tuple") c c_tup 3 rfl T.z_tuple (by decide +kernel) (da_cons (de_bin o_add (de_var c 3 rfl (by decide)) (de_bin o_mul (de_lst (da_cons (de_bin o_add de_int (de_fn c (h__law_draw.up (by decide)) 1 rfl (da_cons (de_var c 0 rfl (by decide)) (da_cons de_int da_nil)))) da_nil)) (de_callT (T := "int") c c_int 4 rfl T.z_int (by decide +kernel) (da_cons (de_cmp (o_eq c.roomH) (de_fn c (h__law_draw.up (by decide)) 1 rfl (da_cons (de_var c 0 rfl (by decide)) (da_cons de_int da_nil))) de_int (nomark _)) da_nil)))) da_nil)) do_no (do_some de_int))))))
theorem h__law_spans {M : Md} (T : Hs M) (h__law_draw : Has M false 2 "_law_draw" ["_law_pen", "_law_many"] m__law_draw) (h__law_span : Has M false 3 "_law_span" ["_law_pen", "_law_longs_here", "_law_joints_here"] m__law_span) (F : TopFn M "_law_spans" s__law_spans ["_law_pen", "_law_longs_here", "_law_joints_here"]) : Has M false 4 "_law_spans" ["_law_pen", "_law_longs_here", "_law_joints_here"] m__law_spans := has_of F sc__law_spans t__law_spans rfl rfl (fun X c => b__law_spans T h__law_draw h__law_span c)
abbrev s_law : Stmt := topS 64
def B_law : Tb := ⟨["_law_script", "_law_cell", "_law_pen", "_law_turn", "_law_longs_here", "_law_joints_here", "_law_span_here"], [0, 1, 2, 3, 4, 5, 6], [0, 1, 2, 3, 4, 5, 6], [0, 1, 2, 3, 4, 5, 6], ["_law_cell_at", "_law_pen_of", "range", "_law_longs", "_law_joints", "_law_span", "_law_draw", "_law_one_right", "_law_some_right", "_law_spans"], [], true, false, none⟩
theorem sc_law : FnScope B_law.N ["_law_script"] (defScope s_law) := ⟨rfl, rfl, rfl, by decide +kernel, rfl, by decide +kernel, by decide +kernel⟩
theorem t_law : fnT B_law (defScope s_law) = true := by decide +kernel
noncomputable def d_law_l1 : En → Sto → SR :=
    (sWp [6] (sIf (tNot1 (tTru (eCall m__law_one_right (aCons (eVar 4) (aCons (eVar 6) (aCons (eVar 5) aNil)))))) (sRet (eK (.bool false))) sNil))
noncomputable def d_law_l2 : En → Sto → SR :=
    (sWp [3, 4, 5, 6] (sSeq (sPar2 4 5 (aCons (eCall m__law_longs (aCons (eVar 2) (aCons (eK (.int 12)) aNil))) (aCons (eCall m__law_joints (aCons (eVar 2) aNil)) aNil)))
    (sSeq (sFor (cSeq (eLst (aCons (eCall m__law_span (aCons (eVar 2) (aCons (eVar 4) (aCons (eVar 5) aNil)))) (aCons (eOp2 addD (eK (.int 1)) (eCall m__law_draw (aCons (eVar 2) (aCons (eK (.int 80)) aNil)))) aNil)))) (gN 6) d_law_l1)
    (sIf (tNot1 (tTru (eCall m__law_some_right (aCons (eVar 4) (aCons (eCall m__law_spans (aCons (eVar 2) (aCons (eVar 4) (aCons (eVar 5) aNil)))) (aCons (eVar 5) aNil)))))) (sRet (eK (.bool false))) sNil))))
noncomputable def d_law_l3 : En → Sto → SR :=
    (sWp [1, 2, 3, 4, 5, 6] (sSeq (sSet 2 (eCall m__law_pen_of (aCons (eVar 1) aNil)))
    (sFor (cRg1 (aCons (eK (.int 2)) aNil)) (gN 3) d_law_l2)))
noncomputable def d_law : En → Sto → SR :=
    (sSeq (sFor (cSeq (eOp2 addD (eLst (aCons (eCall m__law_cell_at (aCons (eVar 0) (aCons (eK (.int 0)) aNil))) aNil)) (eSlice (eVar 0) (pSome (eK (.int 1))) (pSome (eK (.int 2)))))) (gN 1) d_law_l3)
    (sRet (eK (.bool true))))
noncomputable def m_law : List Wv → Sto → Rs Wv := mkF 1 7 d_law
theorem b_law {M : Md} {X : Cx} (T : Hs M) (h__law_cell_at : Has M false 1 "_law_cell_at" ["_law_script", "_law_k"] m__law_cell_at) (h__law_draw : Has M false 2 "_law_draw" ["_law_pen", "_law_many"] m__law_draw) (h__law_joints : Has M false 3 "_law_joints" ["_law_pen"] m__law_joints) (h__law_longs : Has M false 3 "_law_longs" ["_law_pen", "_law_most"] m__law_longs) (h__law_one_right : Has M false 7 "_law_one_right" ["_law_longs_here", "_law_span_here", "_law_joints_here"] m__law_one_right) (h__law_pen_of : Has M false 1 "_law_pen_of" ["_law_cell"] m__law_pen_of) (h__law_some_right : Has M false 8 "_law_some_right" ["_law_longs_here", "_law_spans_here", "_law_joints_here"] m__law_some_right) (h__law_span : Has M false 3 "_law_span" ["_law_pen", "_law_longs_here", "_law_joints_here"] m__law_span) (h__law_spans : Has M false 4 "_law_spans" ["_law_pen", "_law_longs_here", "_law_joints_here"] m__law_spans) (c : Cxt M X B_law 8) : DB X (defBody s_law) d_law :=
    (db_cons (ds_for c [1] (di_seq (de_bin o_add (de_lst (da_cons (de_fn c (h__law_cell_at.up (by decide)) 0 rfl (da_cons (de_var c 0 rfl (by decide)) (da_cons de_int da_nil))) da_nil)) (de_slice (de_var c 0 rfl (by decide)) (do_some de_int) (do_some de_int)))) (dg_name c [1] 1 rfl (by decide) (by decide))
    (db_wp [1, 2, 3, 4, 5, 6] (db_cons (ds_set c 2 rfl (by decide) (de_fn c (h__law_pen_of.up (by decide)) 1 rfl (da_cons (de_var c 1 rfl (by decide)) da_nil)))
    (db_one (ds_for c [3] (di_range1 c 2 rfl T.z_range (da_cons de_int da_nil)) (dg_name c [3] 3 rfl (by decide) (by decide))
    (db_wp [3, 4, 5, 6] (db_cons (ds_par2 c 4 5 rfl rfl (by decide) (isLoc c (i := 4) (by decide) rfl) (isLoc c (i := 5) (by decide) rfl) (da_cons (de_fn c (h__law_longs.up (by decide)) 3 rfl (da_cons (de_var c 2 rfl (by decide)) (da_cons de_int da_nil))) (da_cons (de_fn c (h__law_joints.up (by decide)) 4 rfl (da_cons (de_var c 2 rfl (by decide)) da_nil)) da_nil)) (sw2 c (i := 4) (j := 5) rfl rfl (by decide) (by decide) (by decide +kernel) rfl rfl (by intro _ _ h; cases h) (by intro _ _ h; cases h) rfl rfl))
    (db_cons (ds_for c [6] (di_seq (de_lst (da_cons (de_fn c (h__law_span.up (by decide)) 5 rfl (da_cons (de_var c 2 rfl (by decide)) (da_cons (de_var c 4 rfl (by decide)) (da_cons (de_var c 5 rfl (by decide)) da_nil)))) (da_cons (de_bin o_add de_int (de_fn c (h__law_draw.up (by decide)) 6 rfl (da_cons (de_var c 2 rfl (by decide)) (da_cons de_int da_nil)))) da_nil)))) (dg_name c [6] 6 rfl (by decide) (by decide))
    (db_wp [6] (db_one (ds_if (dt_not (dt_val (de_fn c (h__law_one_right.up (by decide)) 7 rfl (da_cons (de_var c 4 rfl (by decide)) (da_cons (de_var c 6 rfl (by decide)) (da_cons (de_var c 5 rfl (by decide)) da_nil)))))) (db_one (ds_ret de_bl)) db_nil))))
    (db_one (ds_if (dt_not (dt_val (de_fn c (h__law_some_right.up (by decide)) 8 rfl (da_cons (de_var c 4 rfl (by decide)) (da_cons (de_fn c (h__law_spans.up (by decide)) 9 rfl (da_cons (de_var c 2 rfl (by decide)) (da_cons (de_var c 4 rfl (by decide)) (da_cons (de_var c 5 rfl (by decide)) da_nil)))) (da_cons (de_var c 5 rfl (by decide)) da_nil)))))) (db_one (ds_ret de_bl)) db_nil))))))))))
    (db_one (ds_ret de_bl)))
theorem h_law {M : Md} (T : Hs M) (h__law_cell_at : Has M false 1 "_law_cell_at" ["_law_script", "_law_k"] m__law_cell_at) (h__law_draw : Has M false 2 "_law_draw" ["_law_pen", "_law_many"] m__law_draw) (h__law_joints : Has M false 3 "_law_joints" ["_law_pen"] m__law_joints) (h__law_longs : Has M false 3 "_law_longs" ["_law_pen", "_law_most"] m__law_longs) (h__law_one_right : Has M false 7 "_law_one_right" ["_law_longs_here", "_law_span_here", "_law_joints_here"] m__law_one_right) (h__law_pen_of : Has M false 1 "_law_pen_of" ["_law_cell"] m__law_pen_of) (h__law_some_right : Has M false 8 "_law_some_right" ["_law_longs_here", "_law_spans_here", "_law_joints_here"] m__law_some_right) (h__law_span : Has M false 3 "_law_span" ["_law_pen", "_law_longs_here", "_law_joints_here"] m__law_span) (h__law_spans : Has M false 4 "_law_spans" ["_law_pen", "_law_longs_here", "_law_joints_here"] m__law_spans) (F : TopFn M "law" s_law ["_law_script"]) : Has M false 9 "law" ["_law_script"] m_law := has_of F sc_law t_law rfl rfl (fun X c => b_law T h__law_cell_at h__law_draw h__law_joints h__law_longs h__law_one_right h__law_pen_of h__law_some_right h__law_span h__law_spans c)
end

section
variable [Tbl]
theorem r_cell_at (ns : List Int) (k : Nat) (st : Sto) : m__law_cell_at [.d (.list (ns.map .int)), .d (.int (k : Nat))] st = .ok (.d (.int (ns.getD k 0))) st := by
  unfold m__law_cell_at d__law_cell_at
  by_cases h : k < ns.length
  · have h2 : (k : Int) < ns.length := by omega
    simp [h2, atD_nat, h]
  · have h2 : ¬ (k : Int) < ns.length := by omega
    simp [h2, h]
theorem big_l {i j : Int} (h : 0 ≤ i) (h2 : i < 2147483648) : bigOk i j = true := by
  unfold bigOk
  rw [decide_eq_true (show i.natAbs < 18446744073709551616 by omega)]
  rfl
def nxI (s : Int) : Int := (((s + 7919) % 2147483647) * ((s + 7919) % 2147483647) + 48271 * ((s + 7919) % 2147483647) + 12345) % 2147483629
theorem r_next (s : Int) (st : Sto) : m__law_next [.d (.int s)] st = .ok (.d (.int (nxI s))) st := by
  unfold m__law_next d__law_next
  have h1 : 0 ≤ (s + 7919) % 2147483647 := by omega
  have h2 : (s + 7919) % 2147483647 < 2147483648 := by omega
  simp [big_l h1 h2, big_l (i := 48271) (by decide) (by decide), nxI]
theorem take_app {α : Type} (xs ys : List α) : (xs ++ ys).take xs.length = xs := by simp
theorem r_pen_of (c : Int) (st : Sto) : ∃ a b d : Int, m__law_pen_of [.d (.int c)] st = .ok (.r st.length) (st ++ [.lst [.int a, .int b, .int d]]) := by
  unfold m__law_pen_of d__law_pen_of
  simp [newW]
theorem r_draw {p : Nat} {st : Sto} (n : Int) (h : Pen p st) (h0 : 0 < n) (h1 : n < 1073741824) : ∃ (v : Int) (st' : Sto), m__law_draw [.r p, .d (.int n)] st = .ok (.d (.int v)) st' ∧ 0 ≤ v ∧ v < n ∧ Pn p st st' := by
  obtain ⟨a, b, c, e⟩ := id h
  have hp : p < st.length := (List.getElem?_eq_some_iff.mp e).1
  unfold m__law_draw d__law_draw
  have ix0 : ixN 3 0 = some 0 := rfl
  have ix2 : ixN 3 2 = some 2 := rfl
  by_cases q : b = 1 ∧ 0 < a
  · obtain ⟨rfl, q2⟩ := q
    refine ⟨a % n, st.set p (.lst [.int (a / n), .int 1, .int c]), ?_, Int.emod_nonneg _ (by omega), Int.emod_lt_of_pos a h0, .set h _ _ _⟩
    have hl : (st.set p (.lst [.int (a / n), .int 1, .int c])).length = st.length := by simp
    simp [look1_l e, q2, h0, h1, sixW, setW_l e (t := 0) (q := 0) rfl]
  · have hs : ∀ x, (st.set p (.lst [.int a, .int b, .int x]))[p]? = some (.lst [.int a, .int b, .int x]) := fun x => List.getElem?_set_self hp
    refine ⟨nxI (nxI c + 7) / 64 % n, st.set p (.lst [.int a, .int b, .int (nxI (nxI c + 7))]), ?_, Int.emod_nonneg _ (by omega), Int.emod_lt_of_pos _ h0, .set h _ _ _⟩
    simp [look1_l e, q, h0, h1, sixW, setW_l e (t := 2) (q := 2) rfl, r_next, look1_l (hs _)]
/-- the law's own loop over the cells -/
theorem outer_ok {body : En → Sto → SR} {n : Nat} {K : Int} (turn : ∀ (sc : Wv) (c : Int) (vs : List (Option Wv)) (st : Sto), vs.length = n → ∃ us st', us.length = n + 1 ∧ body (some sc :: some (.d (.int c)) :: vs) st = .nx (some sc :: us) st') (ns : List Int) (h : ns.length ≤ 63) :
    ∃ st, mkF 1 (n + 2) (sSeq (sFor (cSeq (eOp2 addD (eLst (aCons (eCall m__law_cell_at (aCons (eVar 0) (aCons (eK (.int 0)) aNil))) aNil)) (eSlice (eVar 0) (pSome (eK (.int 1))) (pSome (eK (.int K)))))) (gN 1) body) (sRet (eK (.bool true)))) [.d (.list (ns.map .int))] [] = .ok (.d (.bool true)) st := by
  have e0 := r_cell_at ns 0 []
  have ec : cutD (ns.map PyData.int) (some 1) (some K) = (cutD ns (some 1) (some K)).map .int := by unfold cutD; simp
  obtain ⟨env, st, e1, h1⟩ := forL_go (g := gN 1) (b := body) (fun env _ => ∃ vs : List (Option Wv), vs.length = n + 1 ∧ env = some (.d (.list (ns.map .int))) :: vs) (.int (ns.getD 0 0) :: (cutD ns (some 1) (some K)).map .int) (fun x hx env st hI => by
    obtain ⟨vs, hl, rfl⟩ := hI
    obtain ⟨i, rfl⟩ : ∃ i, x = .int i := by
      rcases List.mem_cons.mp hx with rfl | q
      · exact ⟨_, rfl⟩
      · obtain ⟨i, _, rfl⟩ := List.mem_map.mp q
        exact ⟨i, rfl⟩
    obtain ⟨v, vs, rfl⟩ : ∃ v w, vs = v :: w := by
      cases vs with
      | nil => simp at hl
      | cons v w => exact ⟨v, w, rfl⟩
    obtain ⟨us, st', ul, e⟩ := turn (.d (.list (ns.map .int))) i vs st (by simpa using hl)
    exact ⟨_, _, _, rfl, e, ⟨us, ul, rfl⟩⟩) (some (.d (.list (ns.map .int))) :: List.replicate (n + 1) none) [] ⟨_, by simp, rfl⟩
  have hl : (cutD ns (some 1) (some K)).length ≤ 63 := Nat.le_trans cutD_len h
  have e0' : m__law_cell_at [.d (.list (ns.map .int)), .d (.int 0)] [] = .ok (.d (.int (ns.getD 0 0))) [] := e0
  refine ⟨[], ?_⟩
  generalize ns.getD 0 0 = c0 at *
  have hl2 : (cutD ns (some 1) (some K)).length + 1 ≤ 1000000 := by omega
  have e2 : List.replicate (n + 2 - 1) (none : Option Wv) = List.replicate (n + 1) none := rfl
  simp [e0', lstW, ec, Nat.add_comm 1, hl2, srcW, e2]
  simp at e1
  simp [e1]
/-- the law's own loop over the cells, all other slots given up behind each -/
theorem outer_w {body : En → Sto → SR} {n : Nat} {K : Int} (turn : ∀ (sc : Wv) (c : Int) (st : Sto), ∃ st', body (some sc :: some (.d (.int c)) :: List.replicate n none) st = .nx (some sc :: List.replicate (n + 1) none) st') (ns : List Int) (h : ns.length ≤ 63) :
    ∃ st, mkF 1 (n + 2) (sSeq (sFor (cSeq (eOp2 addD (eLst (aCons (eCall m__law_cell_at (aCons (eVar 0) (aCons (eK (.int 0)) aNil))) aNil)) (eSlice (eVar 0) (pSome (eK (.int 1))) (pSome (eK (.int K)))))) (gN 1) body) (sRet (eK (.bool true)))) [.d (.list (ns.map .int))] [] = .ok (.d (.bool true)) st := by
  have e0 := r_cell_at ns 0 []
  have ec : cutD (ns.map PyData.int) (some 1) (some K) = (cutD ns (some 1) (some K)).map .int := by unfold cutD; simp
  obtain ⟨env, st, e1, rfl⟩ := forL_go (g := gN 1) (b := body) (fun env _ => env = some (.d (.list (ns.map .int))) :: List.replicate (n + 1) none) (.int (ns.getD 0 0) :: (cutD ns (some 1) (some K)).map .int) (fun x hx env st hI => by
    subst hI
    obtain ⟨i, rfl⟩ : ∃ i, x = .int i := by
      rcases List.mem_cons.mp hx with rfl | q
      · exact ⟨_, rfl⟩
      · obtain ⟨i, _, rfl⟩ := List.mem_map.mp q
        exact ⟨i, rfl⟩
    obtain ⟨st', e⟩ := turn (.d (.list (ns.map .int))) i st
    exact ⟨_, _, _, rfl, e, rfl⟩) (some (.d (.list (ns.map .int))) :: List.replicate (n + 1) none) [] rfl
  have hl : (cutD ns (some 1) (some K)).length ≤ 63 := Nat.le_trans cutD_len h
  have e0' : m__law_cell_at [.d (.list (ns.map .int)), .d (.int 0)] [] = .ok (.d (.int (ns.getD 0 0))) [] := e0
  refine ⟨[], ?_⟩
  generalize ns.getD 0 0 = c0 at *
  have hl2 : (cutD ns (some 1) (some K)).length + 1 ≤ 1000000 := by omega
  have e2 : List.replicate (n + 2 - 1) (none : Option Wv) = List.replicate (n + 1) none := rfl
  simp [e0', lstW, ec, Nat.add_comm 1, hl2, srcW, e2]
  simp at e1
  simp [e1]
end

section
variable [Tbl]
theorem r_longs {p : Nat} {st : Sto} (h : Pen p st) {most : Int} (hm : 1 ≤ most) (hm2 : most ≤ 1000) : ∃ (ls : List Int) (st' : Sto), m__law_longs [.r p, .d (.int most)] st = .ok (.d (.tuple (ls.map .int))) st' ∧ (1 ≤ ls.length ∧ (ls.length : Int) ≤ most) ∧ (∀ l ∈ ls, 1 ≤ l ∧ l ≤ 20) ∧ Pn p st st' := by
  obtain ⟨v1, st1, e1, a1, b1, c1⟩ := r_draw 3 h (by decide) (by decide)
  obtain ⟨v2, st2, e2, a2, b2, c2⟩ := r_draw most c1.pen (by omega) (by omega)
  obtain ⟨m, hm', em⟩ := atD_mem (xs := [PyData.int 3, .int 8, .int 20]) a1 (by simpa using b1)
  obtain ⟨m, rfl, m1, m2⟩ : ∃ u, m = .int u ∧ 0 < u ∧ u ≤ 20 := by
    simp at hm'
    rcases hm' with rfl | rfl | rfl <;> exact ⟨_, rfl, by decide, by decide⟩
  obtain ⟨ys, st3, e3, hl, hy, c3⟩ := lcL_pen (p := p) (g := gN 5) (c := eOp2 addD (eK (.int 1)) (eCall m__law_draw (aCons (eVar 0) (aCons (eOp2 ixD (eLst (aCons (eK (.int 3)) (aCons (eK (.int 8)) (aCons (eK (.int 20)) aNil)))) (eVar 2)) aNil))))
    (env := [some (.r p), some (.d (.int most)), some (.d (.int v1)), some (.d (.int (1 + v2))), none, none]) (fun y => ∃ i, y = .int i ∧ (1 ≤ i ∧ i ≤ 20)) (rangeD 0 (1 + v2).toNat) [] st2 c2.pen fun x hx st hp => by
      obtain ⟨u, st', e, a, b, c⟩ := r_draw m hp m1 (by omega)
      exact ⟨_, .int (1 + u), st', rfl, by simp [lstW, em, e], ⟨_, rfl, by omega, by omega⟩, c⟩
  obtain ⟨ls, rfl, hls, ok⟩ := ints_of hy
  rw [hl, rangeD_len] at hls
  refine ⟨ls, st3, ?_, by omega, ok, (c1.trans c2).trans c3⟩
  unfold m__law_longs d__law_longs
  have t3 : st3.take st.length = st3 := by rw [← ((c1.trans c2).trans c3).len]; simp
  have hr : (rangeD 0 (1 + v2).toNat).length ≤ 1000000 := by rw [rangeD_len]; omega
  simp [e1, e2, tupW, rg1_ok (i := 1 + v2) _ (by omega) (by omega), wipeE, e3, t3, hr]
theorem r_joints {p : Nat} {st : Sto} (h : Pen p st) : ∃ (a b : Int) (st' : Sto), m__law_joints [.r p] st = .ok (.d (.tuple [.int a, .int b])) st' ∧ (0 ≤ a ∧ a ≤ b ∧ b ≤ 9) ∧ Pn p st st' := by
  obtain ⟨v1, st1, e1, a1, b1, c1⟩ := r_draw 10 h (by decide) (by decide)
  obtain ⟨v2, st2, e2, a2, b2, c2⟩ := r_draw 3 c1.pen (by decide) (by decide)
  obtain ⟨v3, st3, e3, a3, b3, c3⟩ := r_draw 2 c2.pen (by decide) (by decide)
  obtain ⟨low, hlow, el⟩ := atD_mem (xs := [PyData.int 0, .int 1, .int v1]) a2 (by simpa using b2)
  obtain ⟨low, rfl, l1, l2⟩ : ∃ u, low = .int u ∧ 0 ≤ u ∧ u ≤ 9 := by
    simp at hlow
    rcases hlow with rfl | rfl | rfl
    · exact ⟨_, rfl, by decide, by decide⟩
    · exact ⟨_, rfl, by decide, by decide⟩
    · exact ⟨_, rfl, by omega, by omega⟩
  generalize hmn : (if 10 - low < 3 then 10 - low else 3) = mn
  obtain ⟨w, hw, ew⟩ := atD_mem (xs := [PyData.int (10 - low), .int mn]) a3 (by simpa using b3)
  obtain ⟨w, rfl, w1, w2⟩ : ∃ u, w = .int u ∧ 0 < u ∧ u ≤ 10 - low := by
    have : 0 < mn ∧ mn ≤ 10 - low := by rw [← hmn]; split <;> omega
    simp at hw
    rcases hw with rfl | rfl
    · exact ⟨_, rfl, by omega, by omega⟩
    · exact ⟨_, rfl, this.1, this.2⟩
  obtain ⟨v4, st4, e4, a4, b4, c4⟩ := r_draw w c3.pen w1 (by omega)
  have c := ((c1.trans c2).trans c3).trans c4
  refine ⟨low, low + v4, st4, ?_, by omega, c⟩
  have t4 : st4.take st.length = st4 := by rw [← c.len]; simp
  unfold m__law_joints d__law_joints
  simp [e1, e2, e3, lstW, el, hmn, ew, e4, tupW, t4]
end

section
variable [Tbl]
/-- longs that are longs -/
structure Lg (ls : List Int) : Prop where
  n : 1 ≤ ls.length ∧ ls.length ≤ 12
  b : ∀ l ∈ ls, 1 ≤ l ∧ l ≤ 20
theorem Lg.sum {ls : List Int} (h : Lg ls) : (ls.length : Int) ≤ ls.sum ∧ ls.sum ≤ 20 * ls.length := by
  have := sum_le h.b
  omega
theorem r_span {p : Nat} {st : Sto} (h : Pen p st) {ls : List Int} (L : Lg ls) {a b : Int} (J : 0 ≤ a ∧ a ≤ b ∧ b ≤ 9) : ∃ (s : Int) (st' : Sto), m__law_span [.r p, .d (.tuple (ls.map .int)), .d (.tuple [.int a, .int b])] st = .ok (.d (.int s)) st' ∧ (1 ≤ s ∧ s ≤ 80) ∧ Pn p st st' := by
  have n1 := L.n
  have big : ∀ {i : Int}, 0 ≤ i → i ≤ 9 → bigOk ((ls.length : Int) - 1) i = true := fun h1 h2 => big_l (by omega) (by omega)
  have ba := big J.1 (by omega)
  have bb := big (i := b) (by omega) (by omega)
  generalize hlo : ls.sum + ((ls.length : Int) - 1) * a = lo
  generalize hhi : ls.sum + ((ls.length : Int) - 1) * b = hi
  have hd : 0 ≤ hi - lo ∧ hi - lo ≤ 99 := by
    have e : hi - lo = ((ls.length : Int) - 1) * (b - a) := by rw [← hlo, ← hhi, Int.mul_sub]; omega
    have m1 : (0 : Int) ≤ (ls.length : Int) - 1 := by omega
    refine ⟨by rw [e]; exact Int.mul_nonneg m1 (by omega), ?_⟩
    rw [e]
    have := Int.mul_le_mul (show (ls.length : Int) - 1 ≤ 11 by omega) (show b - a ≤ 9 by omega) (by omega) (by decide)
    omega
  obtain ⟨v1, st1, e1, a1, b1, c1⟩ := r_draw 5 h (by decide) (by decide)
  obtain ⟨v2, st2, e2, a2, b2, c2⟩ := r_draw (hi - lo + 1) c1.pen (by omega) (by omega)
  obtain ⟨v3, st3, e3, a3, b3, c3⟩ := r_draw 4 c2.pen (by decide) (by decide)
  obtain ⟨v4, st4, e4, a4, b4, c4⟩ := r_draw 9 c3.pen (by decide) (by decide)
  obtain ⟨f, hf, ef⟩ := atD_mem (xs := [PyData.int lo, .int hi, .int (lo + v2), .int (hi + (1 + v3)), .int (lo - (1 + v4))]) a1 (by simpa using b1)
  obtain ⟨f, rfl⟩ : ∃ u, f = .int u := by
    simp at hf
    rcases hf with rfl | rfl | rfl | rfl | rfl <;> exact ⟨_, rfl⟩
  have c := ((c1.trans c2).trans c3).trans c4
  refine ⟨if (if f < 80 then f else 80) > 1 then (if f < 80 then f else 80) else 1, st4, ?_, by split <;> split <;> omega, c⟩
  have t4 : st4.take st.length = st4 := by rw [← c.len]; simp
  unfold m__law_span d__law_span
  simp [ba, bb, hlo, hhi, e1, e2, e3, e4, lstW, ef, t4]
end

section
variable [Tbl]
def isWhole : PyData → Bool
  | .int _ => true
  | _ => false
def isFT (d : PyData) (a b : Int) : Bool := match d with
  | .int i => decide (a ≤ i) && decide (i ≤ b)
  | _ => false
theorem r_is_whole (d : PyData) (st : Sto) : m_is_whole [.d d] st = .ok (.d (.bool (isWhole d))) st := by
  unfold m_is_whole d_is_whole
  cases d <;> simp [isWhole]
theorem r_is_from_to (d : PyData) (a b : Int) (st : Sto) : m_is_from_to [.d d, .d (.int a), .d (.int b)] st = .ok (.d (.bool (isFT d a b))) st := by
  unfold m_is_from_to d_is_from_to
  cases d <;> simp [isFT, isWhole, r_is_whole]
theorem r_are_longs {ls : List Int} (L : Lg ls) (st : Sto) : m_are_longs [.d (.tuple (ls.map .int))] st = .ok (.d (.bool true)) st := by
  have n1 := L.n
  have h1 : (1 : Int) ≤ ls.length := by omega
  have h2 : (ls.length : Int) ≤ 12 := by omega
  have e1 := lcL_map (g := gN 2) (c := eCall m_is_from_to (aCons (eVar 2) (aCons (eK (.int 1)) (aCons (eK w_MOST_STONE) aNil)))) (env := [some (.d (.tuple (ls.map .int))), none, none]) (st := st) (f := fun x => .bool (isFT x 1 20)) (ls.map .int) [] fun x hx => ⟨_, rfl, by simp [r_is_from_to, w_MOST_STONE]⟩
  have e2 : (ls.map PyData.int).all (fun x => isFT x 1 20) = true := by
    rw [List.all_eq_true]
    intro x hx
    obtain ⟨l, hl, rfl⟩ := List.mem_map.mp hx
    have := L.b l hl
    simp [isFT, this]
  have e3 := o_all' (ls.map PyData.int) fun x => isFT x 1 20
  rw [e2] at e3
  unfold m_are_longs d_are_longs
  simp [h1, h2, w_MOST_STONES, srcW, wipeE, show ls.length ≤ 1000000 by omega]
  rw [e1]
  simp only [List.nil_append, Rs.bind_ok, looks_d, looks_nil, Option.map_some, e3]
  simp
theorem r_need_longs {ls : List Int} (L : Lg ls) (st : Sto) : m_need_longs [.d (.tuple (ls.map .int))] st = .ok (.d .none) st := by
  unfold m_need_longs d_need_longs
  simp [r_are_longs L]
theorem r_need_span {s : Int} (hs : 1 ≤ s ∧ s ≤ 80) (st : Sto) : m_need_span [.d (.int s)] st = .ok (.d .none) st := by
  unfold m_need_span d_need_span m_is_span d_is_span
  simp [r_is_from_to, w_MOST_SPAN, isFT, hs]
theorem r_need_joints {a b : Int} (J : 0 ≤ a ∧ a ≤ b ∧ b ≤ 9) (st : Sto) : m_need_joints [.d (.tuple [.int a, .int b])] st = .ok (.d .none) st := by
  have j1 := J.1
  have j2 := J.2.1
  have j3 := J.2.2
  have j4 : a ≤ 9 := by omega
  unfold m_need_joints d_need_joints m_are_joints d_are_joints
  simp [r_is_from_to, w_MOST_JOINT, isFT, j1, j2, j3, j4]
end

section
variable [Tbl]
/-! ## several spans -/
theorem whL_of {t : En → Sto → Rs Bool} {b : En → Sto → SR} (I : Nat → En → Sto → Prop) (J : En → Sto → Prop)
    (step : ∀ k env st, I k env st → (∃ st1, t env st = .ok false st1 ∧ J env st1) ∨ ∃ j env2 st1 st2, t env st = .ok true st1 ∧ b env st1 = .nx env2 st2 ∧ j < k ∧ I j env2 st2) :
    ∀ (f k : Nat) (env : En) (st : Sto), k < f → I k env st → ∃ env2 st2, whL t b f env st = .nx env2 st2 ∧ J env2 st2
  | 0, k, env, st, h, _ => by omega
  | f + 1, k, env, st, h, hI => by
    rcases step k env st hI with ⟨st1, e, j⟩ | ⟨j, env2, st1, st2, e1, e2, hj, h2⟩
    · exact ⟨env, st1, by simp [whL, e], j⟩
    · obtain ⟨env3, st3, e3, h3⟩ := whL_of I J step f j env2 st2 (by omega) h2
      exact ⟨env3, st3, by simp [whL, e1, e2, e3], h3⟩
structure Sps (ss : List Int) : Prop where
  n : 1 ≤ ss.length ∧ ss.length ≤ 6
  b : ∀ s ∈ ss, 1 ≤ s ∧ s ≤ 80
theorem Sps.rev {ss : List Int} (h : Sps ss) : Sps ss.reverse := ⟨by rw [List.length_reverse]; exact h.n, fun s hs => h.b s (List.mem_reverse.mp hs)⟩
/-- stones from one on to another one -/
def sl (ls : List Int) (i j : Nat) : List Int := (ls.drop i).take (j - i)
theorem sl_len {ls : List Int} {i j : Nat} (h : j ≤ ls.length) : (sl ls i j).length = j - i := by unfold sl; rw [List.length_take, List.length_drop]; omega
theorem sl_mem {ls : List Int} {i j : Nat} {x : Int} (h : x ∈ sl ls i j) : x ∈ ls := List.mem_of_mem_drop (List.mem_of_mem_take h)
theorem sl_lg {ls : List Int} (L : Lg ls) {i j : Nat} (h1 : i < j) (h2 : j ≤ ls.length) : Lg (sl ls i j) := ⟨by rw [sl_len h2]; have := L.n; omega, fun l hl => L.b l (sl_mem hl)⟩
theorem cut_sl (ls : List Int) (i j : Nat) : cutD (ls.map PyData.int) (some (i : Int)) (some (j : Int)) = (sl ls i j).map .int := by
  unfold cutD sl
  rw [HT.sIx_nat, HT.sIx_nat, List.length_map, ← List.map_drop, ← List.map_take]
  congr 1
  rcases Nat.le_total i ls.length with h | h
  · rw [Nat.min_eq_left h]
    rcases Nat.le_total j ls.length with h2 | h2
    · rw [Nat.min_eq_left h2]
    · rw [Nat.min_eq_right h2, List.take_of_length_le (by simp), List.take_of_length_le (by simp; omega)]
  · rw [Nat.min_eq_right h, List.drop_eq_nil_of_le (Nat.le_refl _), List.drop_eq_nil_of_le h]; simp
theorem r_need_spans {ss : List Int} (h : Sps ss) (st : Sto) : m_need_spans [(.d (.tuple ((ss).map .int)))] st = .ok (.d .none) st := by
  have n1 := h.n
  have h1 : (1 : Int) ≤ ss.length := by omega
  have h2 : (ss.length : Int) ≤ 6 := by omega
  have e1 := lcL_mapE (g := gN 2) (c := eCall m_is_span (aCons (eVar 2) aNil)) (env := [some (.d (.tuple ((ss).map .int))), none, none]) (st := st) PyData.int (fun _ => .bool true) ss [] fun s hs => ⟨_, rfl, by
    have b := h.b s hs
    unfold m_is_span d_is_span
    simp -implicitDefEqProofs [r_is_from_to, w_MOST_SPAN, isFT, b]⟩
  have e2 := o_all' ss fun _ => true
  rw [show ss.all (fun _ => true) = true from by simp] at e2
  have h3 : (ss.map PyData.int).length ≤ 1000000 := by rw [List.length_map]; omega
  rw [List.nil_append] at e1
  have h4 : ((ss.map PyData.int).length : Int) = ss.length := by simp
  generalize (ss.map fun _ => PyData.bool true) = TT at *
  rw [← h4] at h1 h2
  generalize ss.map PyData.int = SS at *
  unfold m_need_spans d_need_spans
  simp -implicitDefEqProofs [h1, h2, w_MOST_SPANS, srcW_dt, wipeE, h3, e1, e2]
theorem r_need_some {ls ss : List Int} (L : Lg ls) (S : Sps ss) {a b : Int} (J : 0 ≤ a ∧ a ≤ b ∧ b ≤ 9) (st : Sto) : m_need_some [(.d (.tuple ((ls).map .int))), (.d (.tuple ((ss).map .int))), .d (.tuple [.int a, .int b])] st = .ok (.d .none) st := by
  have e1 := fun st => r_need_longs L st
  have e2 := fun st => r_need_spans S st
  have e3 := fun st => r_need_joints J st
  unfold m_need_some d_need_some
  simp -implicitDefEqProofs [e1, e2, e3]
theorem sl_lg' {ls : List Int} (L : Lg ls) {i j : Nat} (h1 : i < j) (h2 : i < ls.length) : Lg (sl ls i j) := ⟨by
  have := L.n
  unfold sl; rw [List.length_take, List.length_drop]; omega, fun l hl => L.b l (sl_mem hl)⟩
theorem r_law_spans {p : Nat} {st : Sto} (h : Pen p st) {ls : List Int} (L : Lg ls) {a b : Int} (J : 0 ≤ a ∧ a ≤ b ∧ b ≤ 9) : ∃ (ss : List Int) (st' : Sto), m__law_spans [.r p, (.d (.tuple ((ls).map .int))), .d (.tuple [.int a, .int b])] st = .ok (.d (.tuple ((ss).map .int))) st' ∧ Sps ss ∧ Pn p st st' := by
  have hn := L.n
  have hp := h.lt
  have e0 : lenF [.tuple (ls.map .int)] = some (.int (ls.length : Int)) := by simp
  obtain ⟨env, st1, e1, done, ss, rfl, g1, px1, b1, n1⟩ := whL_of (t := tAnd2 (tBl (eOp2 ltD (eVar 4) (eOpN lenF (aCons (eVar 1) aNil)))) (tBl (eOp2 ltD (eOpN lenF (aCons (eVar 3) aNil)) (eK (.int 6)))))
    (b := sWp [5] (sSeq (sSet 5 (eOp2 addD (eK (.int 1)) (eCall m__law_draw (aCons (eVar 0) (aCons (eK (.int 4)) aNil))))) (sSeq (sExp (eM appW (eVar 3) (aCons (eCall m__law_span (aCons (eVar 0) (aCons (eSlice (eVar 1) (pSome (eVar 4)) (pSome (eOp2 addD (eVar 4) (eVar 5)))) (aCons (eVar 2) aNil)))) aNil))) (sSet 4 (eOp2 addD (eVar 4) (eVar 5))))))
    (fun k env st' => ∃ (done : Nat) (ss : List Int), env = [some (.r p), some (.d (.tuple ((ls).map .int))), some (.d (.tuple [.int a, .int b])), some (.r st.length), some (.d (.int ((done : Int)))), none] ∧ k = ls.length - done ∧ st'[st.length]? = some (.lst (ss.map .int)) ∧ Px p st.length st st' ∧ (∀ s ∈ ss, 1 ≤ s ∧ s ≤ 80) ∧ ss.length ≤ 6 ∧ (0 < done → 1 ≤ ss.length))
    (fun env st' => ∃ (done : Nat) (ss : List Int), env = [some (.r p), some (.d (.tuple ((ls).map .int))), some (.d (.tuple [.int a, .int b])), some (.r st.length), some (.d (.int ((done : Int)))), none] ∧ st'[st.length]? = some (.lst (ss.map .int)) ∧ Px p st.length st st' ∧ (∀ s ∈ ss, 1 ≤ s ∧ s ≤ 80) ∧ (1 ≤ ss.length ∧ ss.length ≤ 6)) (fun k env st' hI => by
      obtain ⟨done, ss, rfl, rfl, g, px, hb, h6, h0⟩ := hI
      have lk := looks_l1 g
      have hl : ((ss.map PyData.int).length : Int) = ss.length := by simp
      by_cases c1 : done < ls.length
      · by_cases c2 : ss.length < 6
        · right
          obtain ⟨v, st2, e4, a4, b4, c4⟩ := r_draw 4 px.pen (by decide) (by decide)
          obtain ⟨v, rfl⟩ := Int.eq_ofNat_of_zero_le a4
          obtain ⟨s, st3, e5, hs, c5⟩ := r_span c4.pen (sl_lg' L (i := done) (j := done + (1 + v)) (by omega) c1) J
          rw [← cut_sl] at e5
          have c45 := c4.trans c5
          have g3 : st3[st.length]? = some (.lst (ss.map .int)) := by rw [c45.sm _ (by omega)]; exact g
          have il := isLst_l g
          have il2 : isLst st2 (.r st.length) = true := isLst_l (by rw [c4.sm _ (by omega)]; exact g)
          have ap := appW_l g3 (by rw [List.length_map]; omega) (.int s)
          rw [show ss.map PyData.int ++ [.int s] = (ss ++ [s]).map .int by simp] at ap
          have h3 : st.length < st3.length := (List.getElem?_eq_some_iff.mp g3).1
          refine ⟨ls.length - (done + (1 + v)), [some (.r p), some (.d (.tuple ((ls).map .int))), some (.d (.tuple [.int a, .int b])), some (.r st.length), some (.d (.int (((done + (1 + v) : Nat) : Int)))), none], st', st3.set st.length (.lst ((ss ++ [s]).map .int)), ?_, ?_, by omega, done + (1 + v), ss ++ [s], rfl, rfl, List.getElem?_set_self h3, (px.pn c45).put (Nat.le_refl _) hp _, fun x hx => ?_, by simp; omega, fun _ => by simp⟩
          · have d1 : (done : Int) < ls.length := by omega
            have d2 : ((ss.map PyData.int).length : Int) < 6 := by rw [hl]; omega
            generalize ss.map PyData.int = SS at *
            generalize ls.map PyData.int = LS at *
            simp -implicitDefEqProofs [e0, d1, lk, d2]
          · have hc : ((done + (1 + v) : Nat) : Int) = (done : Int) + (1 + (v : Int)) := by omega
            rw [hc] at e5 ⊢
            generalize (ss ++ [s]).map PyData.int = S2 at *
            generalize ss.map PyData.int = SS at *
            generalize ls.map PyData.int = LS at *
            simp -implicitDefEqProofs [e4, il, il2, e5, ap]
          · rcases List.mem_append.mp hx with hx | hx
            · exact hb x hx
            · rw [List.mem_singleton] at hx; omega
        · left
          refine ⟨st', ?_, done, ss, rfl, g, px, hb, by omega, h6⟩
          have d1 : (done : Int) < ls.length := by omega
          have d2 : ¬ ((ss.map PyData.int).length : Int) < 6 := by rw [hl]; omega
          generalize ss.map PyData.int = SS at *
          generalize ls.map PyData.int = LS at *
          simp -implicitDefEqProofs [e0, d1, lk, d2]
      · left
        refine ⟨st', ?_, done, ss, rfl, g, px, hb, h0 (by omega), h6⟩
        have d1 : ¬ (done : Int) < ls.length := by omega
        generalize ls.map PyData.int = LS at *
        simp -implicitDefEqProofs [e0, d1]) 100000 ls.length [some (.r p), some (.d (.tuple ((ls).map .int))), some (.d (.tuple [.int a, .int b])), some (.r st.length), some (.d (.int (((0 : Nat) : Int)))), none] (st ++ [.lst []]) (by omega) ⟨0, [], rfl, rfl, by simp, (Px.refl h).app _, (fun s hs => by cases hs), by simp, fun h => by omega⟩
  obtain ⟨v, st2, e2, a2, b2, c2⟩ := r_draw 40 px1.pen (by decide) (by decide)
  obtain ⟨u, st3, e3, a3, b3, c3⟩ := r_draw 9 c2.pen (by decide) (by decide)
  have c23 := c2.trans c3
  have g3 : st3[st.length]? = some (.lst (ss.map .int)) := by rw [c23.sm _ (by omega)]; exact g1
  have lk := look1_l g3
  refine ⟨(ss ++ if u = 0 then [1 + v] else []).take 6, st3.take st.length, ?_, ⟨by rw [List.length_take, List.length_append]; omega, fun s hs => ?_⟩, (px1.pn c23).back hp⟩
  · have hc : cutD ((ss ++ if u = 0 then [1 + v] else []).map PyData.int) none (some 6) = ((ss ++ if u = 0 then [1 + v] else []).take 6).map .int := by
      have := cutD_take ((ss ++ if u = 0 then [1 + v] else []).map PyData.int) 6
      rw [List.map_take]; exact this
    have hl : (ss.map PyData.int).length ≤ 6 := by rw [List.length_map]; exact n1.2
    have hl1 : (ss.map PyData.int).length ≤ 1000000 := by omega
    have hl2 : (ss.map PyData.int).length ≤ 999999 := by omega
    generalize ((ss ++ if u = 0 then [1 + v] else []).take 6).map PyData.int = R at *
    have c0 : ((0 : Nat) : Int) = 0 := rfl
    rw [c0] at e1
    by_cases q : u = 0
    · subst q
      rw [if_pos rfl, List.map_append] at hc
      generalize ss.map PyData.int = SS at *
      generalize ls.map PyData.int = LS at *
      unfold m__law_spans d__law_spans
      simp -implicitDefEqProofs [newW, sWh, e1, e2, lstW, e3, lk, hl2]
      simpa using hc
    · rw [if_neg q, List.append_nil] at hc
      have q2 : (u == 0) = false := by simpa using q
      generalize ss.map PyData.int = SS at *
      generalize ls.map PyData.int = LS at *
      unfold m__law_spans d__law_spans
      simp -implicitDefEqProofs [newW, sWh, e1, e2, lstW, e3, q, q2, lk, hl1]
      exact hc
  · have hs := List.mem_of_mem_take hs
    rcases List.mem_append.mp hs with hs | hs
    · exact b1 s hs
    · split at hs
      · rw [List.mem_singleton] at hs; omega
      · cases hs
end

section
variable [Tbl]
theorem get_mid (st rest : Sto) (o : Ob) : (st ++ o :: rest)[st.length]? = some o := by rw [List.getElem?_append_right (Nat.le_refl _)]; simp
theorem set_mid (st rest : Sto) (o o' : Ob) : (st ++ o :: rest).set st.length o' = st ++ o' :: rest := by rw [List.set_append_right _ _ (Nat.le_refl _)]; simp
theorem take_mid (st rest : Sto) : (st ++ rest).take st.length = st := by simp
def fitB (ls : List Int) (s a b : Int) : Bool := decide (((ls.length : Int) - 1) * a ≤ s - ls.sum) && decide (s - ls.sum ≤ ((ls.length : Int) - 1) * b)
theorem r_rest {ls : List Int} (s : Int) (st : Sto) : m_rest_of [.d (.tuple (ls.map .int)), .d (.int s)] st = .ok (.d (.int (s - ls.sum))) st := by
  unfold m_rest_of d_rest_of
  simp
theorem r_fit {ls : List Int} (L : Lg ls) (s a b : Int) (st : Sto) : m_fit [.d (.tuple (ls.map .int)), .d (.int s), .d (.tuple [.int a, .int b])] st = .ok (.d (.bool (fitB ls s a b))) st := by
  have n1 := L.n
  have ba : ∀ i, bigOk ((ls.length : Int) - 1) i = true := fun i => big_l (by omega) (by omega)
  unfold m_fit d_fit
  simp [ba, fitB, r_rest]
end

section
variable [Wtp] [Tbl]
/-! ## lists of pairs as dicts -/
section
variable {κ α : Type} [DecidableEq κ]
def valA (L : List (κ × α)) (k : κ) : Option α := (L.find? fun p => decide (p.1 = k)).map (·.2)
def putA (L : List (κ × α)) (k : κ) (v : α) : List (κ × α) := if (valA L k).isSome = true then L.map (fun p => if p.1 = k then (p.1, v) else p) else L ++ [(k, v)]
theorem valA_nil (k : κ) : valA ([] : List (κ × α)) k = none := rfl
theorem valA_cons (p : κ × α) (L : List (κ × α)) (k : κ) : valA (p :: L) k = if p.1 = k then some p.2 else valA L k := by
  unfold valA
  rw [List.find?_cons]
  by_cases h : p.1 = k
  · rw [if_pos h, decide_eq_true h]; rfl
  · rw [if_neg h, decide_eq_false h]
theorem valA_app (L R : List (κ × α)) (k : κ) : valA (L ++ R) k = (valA L k).or (valA R k) := by
  unfold valA
  rw [List.find?_append, Option.map_or]
theorem valA_map (L : List (κ × α)) (k j : κ) (v : α) : valA (L.map fun p => if p.1 = k then (p.1, v) else p) j = if j = k ∧ (valA L k).isSome = true then some v else valA L j := by
  induction L with
  | nil => simp [valA]
  | cons p L ih =>
    rw [List.map_cons, valA_cons, valA_cons, valA_cons]
    by_cases h : p.1 = k
    · rw [if_pos h, if_pos h]
      by_cases hj : j = k
      · subst hj; simp [h]
      · rw [if_neg (show ¬ p.1 = j from fun e => hj (e.symm.trans h)), if_neg (fun z => hj z.1), if_neg (show ¬ p.1 = j from fun e => hj (e.symm.trans h))]
        rw [ih, if_neg (fun z => hj z.1)]
    · rw [if_neg h, if_neg h]
      by_cases hj : p.1 = j
      · rw [if_pos hj, if_neg (fun z => h (hj.trans z.1)), if_pos hj]
      · rw [if_neg hj, if_neg hj, ih]
theorem valA_put (L : List (κ × α)) (k j : κ) (v : α) : valA (putA L k v) j = if j = k then some v else valA L j := by
  unfold putA
  by_cases h : (valA L k).isSome = true
  · rw [if_pos h, valA_map]
    by_cases hj : j = k
    · rw [if_pos ⟨hj, h⟩, if_pos hj]
    · rw [if_neg (fun z => hj z.1), if_neg hj]
  · rw [if_neg h, valA_app, valA_cons, valA_nil]
    have hn : valA L k = none := by cases e : valA L k with | none => rfl | some x => exact absurd (by rw [e]; rfl) h
    by_cases hj : j = k
    · subst hj; rw [hn]; simp
    · rw [if_neg (show ¬ k = j from fun e => hj e.symm), if_neg hj, Option.or_none]
theorem valA_some {L : List (κ × α)} {k : κ} : (valA L k).isSome = true ↔ k ∈ L.map (·.1) := by
  induction L with
  | nil => simp [valA]
  | cons p L ih =>
    rw [valA_cons, List.map_cons, List.mem_cons]
    by_cases h : p.1 = k
    · rw [if_pos h]; simp [h]
    · rw [if_neg h, ih]
      constructor
      · exact .inr
      · rintro (q | q)
        · exact absurd q.symm h
        · exact q
theorem valA_none {L : List (κ × α)} {k : κ} : valA L k = none ↔ k ∉ L.map (·.1) := by
  rw [← valA_some]
  cases valA L k <;> simp
theorem putA_keys (L : List (κ × α)) (k : κ) (v : α) : (putA L k v).map (·.1) = if k ∈ L.map (·.1) then L.map (·.1) else L.map (·.1) ++ [k] := by
  unfold putA
  by_cases h : (valA L k).isSome = true
  · rw [if_pos h, if_pos (valA_some.mp h), List.map_map]
    refine List.map_congr_left fun p _ => ?_
    show (if p.1 = k then (p.1, v) else p).1 = p.1
    split <;> rfl
  · rw [if_neg h, if_neg (fun z => h (valA_some.mpr z)), List.map_append]; rfl
theorem putA_nd {L : List (κ × α)} (k : κ) (v : α) (h : (L.map (·.1)).Nodup) : ((putA L k v).map (·.1)).Nodup := by
  rw [putA_keys]
  split
  · exact h
  · rename_i hk
    refine List.nodup_append.mpr ⟨h, by simp, fun a ha b hb e => hk ?_⟩
    rw [List.mem_singleton] at hb
    rw [← hb, ← e]; exact ha
theorem putA_len (L : List (κ × α)) (k : κ) (v : α) : (putA L k v).length ≤ L.length + 1 := by
  unfold putA
  split <;> simp
theorem putA_mem {L : List (κ × α)} {k j : κ} {v : α} : j ∈ (putA L k v).map (·.1) ↔ j = k ∨ j ∈ L.map (·.1) := by
  rw [putA_keys]
  split
  · rename_i h
    exact ⟨.inr, fun z => z.elim (fun e => e ▸ h) id⟩
  · rw [List.mem_append, List.mem_singleton]; exact or_comm
theorem valA_of {L : List (κ × α)} (h : (L.map (·.1)).Nodup) {p : κ × α} (hp : p ∈ L) : valA L p.1 = some p.2 := by
  induction L with
  | nil => cases hp
  | cons q L ih =>
    rw [List.map_cons, List.nodup_cons] at h
    rw [valA_cons]
    rcases List.mem_cons.mp hp with rfl | hp
    · rw [if_pos rfl]
    · have hq : p.1 ∈ L.map (·.1) := List.mem_map_of_mem hp
      rw [if_neg (fun e => h.1 (by rw [e]; exact hq)), ih h.2 hp]
theorem valA_in {L : List (κ × α)} {k : κ} {v : α} (h : valA L k = some v) : (k, v) ∈ L := by
  induction L with
  | nil => cases h
  | cons q L ih =>
    rw [valA_cons] at h
    split at h
    · rename_i e
      cases h
      subst e
      simp
    · exact List.mem_cons_of_mem _ (ih h)
end
/-! ### keys are whole numbers -/
section
variable {α : Type}
def dI (e : α → PyData) (L : List (Int × α)) : List (PyData × PyData) := L.map fun p => (.int p.1, e p.2)
theorem dI_len (e : α → PyData) (L : List (Int × α)) : (dI e L).length = L.length := List.length_map ..
theorem dI_keys (e : α → PyData) (L : List (Int × α)) : (dI e L).map (·.1) = (L.map (·.1)).map .int := by unfold dI; rw [List.map_map, List.map_map]; rfl
theorem dI_kind (e : α → PyData) (L : List (Int × α)) : kindK (dI e L) = true := by cases L <;> rfl
theorem keyD_eq (i j : Int) : (keyD (.int i) = some (.inl j)) ↔ i = j := by
  show (some (Sum.inl i) = some (Sum.inl j)) ↔ _
  simp
theorem dI_look (e : α → PyData) (L : List (Int × α)) (k : Int) : dLook (dI e L) (.inl k) = (valA L k).map e := by
  induction L with
  | nil => rfl
  | cons p L ih =>
    unfold dLook dI at ih ⊢
    rw [List.map_cons, List.find?_cons, valA_cons]
    by_cases h : p.1 = k
    · rw [decide_eq_true ((keyD_eq _ _).mpr h), if_pos h]; rfl
    · rw [decide_eq_false (fun z => h ((keyD_eq _ _).mp z)), if_neg h]
      exact ih
theorem dI_has (e : α → PyData) (L : List (Int × α)) (k : Int) : hasKey (dI e L) (.inl k) = (valA L k).isSome := by rw [hasKey_look, dI_look, Option.isSome_map]
theorem dI_put (e : α → PyData) (L : List (Int × α)) (k : Int) (v : α) : dPut (dI e L) (.inl k) (.int k) (e v) = dI e (putA L k v) := by
  unfold dPut putA
  rw [dI_has]
  by_cases h : (valA L k).isSome = true
  · rw [if_pos h, if_pos h]
    unfold dI
    rw [List.map_map, List.map_map]
    refine List.map_congr_left fun p _ => ?_
    show (if keyD (.int p.1) = some (.inl k) then (PyData.int p.1, e v) else (.int p.1, e p.2)) = _
    by_cases q : p.1 = k
    · rw [if_pos ((keyD_eq _ _).mpr q)]; simp [q]
    · rw [if_neg (fun z => q ((keyD_eq _ _).mp z))]; simp [q]
  · rw [if_neg h, if_neg h]
    unfold dI
    rw [List.map_append]; rfl
theorem dI_ix (e : α → PyData) (L : List (Int × α)) (k : Int) : ixD (.dict (dI e L)) (.int k) = (valA L k).map e := by
  show dLook (dI e L) (.inl k) = _
  exact dI_look e L k
theorem dI_get (e : α → PyData) (L : List (Int × α)) (k : Int) : getO (.dict (dI e L)) (.int k) = some ((valA L k).map e) := by
  show (if kindK (dI e L) = true then some (dLook (dI e L) (.inl k)) else none) = _
  rw [if_pos (dI_kind e L), dI_look]
theorem dI_in (e : α → PyData) (L : List (Int × α)) (k : Int) : inD (.int k) (.dict (dI e L)) = some (.bool (valA L k).isSome) := by
  show (if kindK (dI e L) = true then some (hasKey (dI e L) (.inl k)) else none).map PyData.bool = _
  rw [if_pos (dI_kind e L), dI_has]; rfl
theorem dI_set {e : α → PyData} {L : List (Int × α)} {i : Nat} {st : Sto} (h : st[i]? = some (.dct (dI e L))) (hl : L.length < 1000000) (k : Int) (v : α) : setW (.r i) (.d (.int k)) (e v) st = some (st.set i (.dct (dI e (putA L k v)))) := by
  unfold setW
  simp only [h, look_d, keyD]
  rw [if_pos (by rw [dI_len]; exact hl), dI_put]
end
theorem look_dk {st : Sto} {i : Nat} {es : List (PyData × PyData)} (h : st[i]? = some (.dct es)) : look st (.r i) = some (.dict es) := by simp only [look]; rw [h]
theorem look_dt {st : Sto} {i : Nat} {es : List (PyData × PyData)} (h : st[i]? = some (.dtt es)) : look st (.r i) = some (.dict es) := by simp only [look]; rw [h]
theorem look_df {st : Sto} {i : Nat} {es : List (PyData × PyData)} (h : st[i]? = some (.lkd es)) : look st (.r i) = some (.dict es) := by simp only [look]; rw [h]
theorem look1_w {st : Sto} {w : Wv} {d : PyData} (h : look st w = some d) (f : PyData → Rs Wv) : look1 w st f = f d := by unfold look1; rw [h]
theorem isDk_w {st : Sto} {w : Wv} {es : List (PyData × PyData)} (h : look st w = some (.dict es)) : isDk st w = true := by unfold isDk; rw [h]
/-! ### keys are tuples -/
class KeyT (κ : Type) where
  ck : κ → PyData
  ke : κ → List Key
  tk : ∀ k, tkD (ck k) = some (ke k)
  inj : ∀ a b, ke a = ke b → a = b
section
variable {κ α : Type} [DecidableEq κ] [KeyT κ]
open KeyT
def dT (e : α → PyData) (L : List (κ × α)) : List (PyData × PyData) := L.map fun p => (ck p.1, e p.2)
theorem dT_len (e : α → PyData) (L : List (κ × α)) : (dT e L).length = L.length := List.length_map ..
theorem dT_keys (e : α → PyData) (L : List (κ × α)) : (dT e L).map (·.1) = (L.map (·.1)).map ck := by unfold dT; rw [List.map_map, List.map_map]; rfl
theorem dT_kind (e : α → PyData) (L : List (κ × α)) : kindT (dT e L) = true := by
  cases L with
  | nil => rfl
  | cons p L =>
    show (tkD (ck p.1)).isSome = true
    rw [tk]; rfl
theorem tkD_eq (a b : κ) : (tkD (ck a) = some (ke b)) ↔ a = b := by
  rw [tk]
  exact ⟨fun h => inj _ _ (Option.some.inj h), fun h => by rw [h]⟩
theorem keyD_ck (a : κ) : keyD (ck a) = none := tkD_keyD (tk a)
theorem dT_look (e : α → PyData) (L : List (κ × α)) (k : κ) : dLookT (dT e L) (ke k) = (valA L k).map e := by
  induction L with
  | nil => rfl
  | cons p L ih =>
    unfold dLookT dT at ih ⊢
    rw [List.map_cons, List.find?_cons, valA_cons]
    by_cases h : p.1 = k
    · rw [decide_eq_true ((tkD_eq _ _).mpr h), if_pos h]; rfl
    · rw [decide_eq_false (fun z => h ((tkD_eq _ _).mp z)), if_neg h]
      exact ih
theorem dT_put (e : α → PyData) (L : List (κ × α)) (k : κ) (v : α) : dPutT (dT e L) (ke k) (ck k) (e v) = dT e (putA L k v) := by
  unfold dPutT putA
  rw [dT_look, Option.isSome_map]
  by_cases h : (valA L k).isSome = true
  · rw [if_pos h, if_pos h]
    unfold dT
    rw [List.map_map, List.map_map]
    refine List.map_congr_left fun p _ => ?_
    show (if tkD (ck p.1) = some (ke k) then (ck p.1, e v) else (ck p.1, e p.2)) = _
    by_cases q : p.1 = k
    · rw [if_pos ((tkD_eq _ _).mpr q)]; simp [q]
    · rw [if_neg (fun z => q ((tkD_eq _ _).mp z))]; simp [q]
  · rw [if_neg h, if_neg h]
    unfold dT
    rw [List.map_append]; rfl
theorem dT_ix (e : α → PyData) (L : List (κ × α)) (k : κ) : ixD (.dict (dT e L)) (ck k) = (valA L k).map e := by
  unfold ixD
  have h1 := keyD_ck k
  have h2 := tk k
  have h3 := dT_look e L k
  generalize ck k = C at *
  cases C <;> first | (simp only [h1, h2]; exact h3) | cases h1
theorem dT_get (e : α → PyData) (L : List (κ × α)) (k : κ) : getO (.dict (dT e L)) (ck k) = some ((valA L k).map e) := by
  unfold getO
  simp only [keyD_ck, tk]
  rw [if_pos (dT_kind e L), dT_look]
theorem dT_in (e : α → PyData) (L : List (κ × α)) (k : κ) : inD (ck k) (.dict (dT e L)) = some (.bool (valA L k).isSome) := by
  unfold inD inB
  simp only [keyD_ck, tk]
  rw [if_pos (dT_kind e L), dT_look, Option.isSome_map]; rfl
theorem dT_set {e : α → PyData} {L : List (κ × α)} {i : Nat} {st : Sto} (h : st[i]? = some (.dtt (dT e L))) (hl : L.length < 1000000) (k : κ) (hw : ck k ∉ Wtp.W) (v : α) : setW (.r i) (.d (ck k)) (e v) st = some (st.set i (.dtt (dT e (putA L k v)))) := by
  unfold setW
  simp only [h, look_d, tk]
  rw [if_pos ⟨by rw [dT_len]; exact hl, hw⟩, dT_put]
theorem dT_setT {e : α → PyData} {L : List (κ × α)} {i : Nat} {st : Sto} (h : st[i]? = some (.dtt (dT e L))) (hl : L.length < 1000000) (k : κ) (v : α) : setWT (.r i) (ck k) (e v) st = some (st.set i (.dtt (dT e (putA L k v)))) := by
  unfold setWT
  simp only [h, tk]
  rw [if_pos (by rw [dT_len]; exact hl), dT_put]
end
end

section
variable [Tbl]
/-! ## how many stones fill a span -/
def wol (f : Nat → Option Int) (m : Nat) : List (Int × Int) := (List.range m).filterMap fun k => (f (k + 1)).map fun c => (((k + 1 : Nat) : Int), c)
theorem wol_succ (f : Nat → Option Int) (m : Nat) : wol f (m + 1) = wol f m ++ (match f (m + 1) with | some c => [(((m + 1 : Nat) : Int), c)] | none => []) := by
  unfold wol
  rw [List.range_succ, List.filterMap_append]
  congr 1
  cases h : f (m + 1) <;> simp [h]
theorem wol_len (f : Nat → Option Int) (m : Nat) : (wol f m).length ≤ m := by
  unfold wol
  exact Nat.le_trans (List.length_filterMap_le _ _) (by simp)
def oD : Option Int → PyData
  | none => .none
  | some c => .int c
def fcl (ls : List Int) (s a b : Int) (d : Nat) : Nat → Option Int := fun k => if fitB (sl ls d (d + k)) s a b = true then some 0 else none
/-- one turn: c is what the stones cost -/
theorem wo_end {x : Option Int} {k m n : Nat} (f : Nat → Option Int) (hm : m < 1000) (hx : f (m + 1) = x) (v0 v1 v2 v3 v4 v5 v8 : Option Wv) (st : Sto) :
    (sWp [7, 8, 9] (sIf (tBl (eOp2 ntND (eVar 9) (eK .none))) (sExp (eM appW (eVar 6) (aCons (eTup (aCons (eVar 7) (aCons (eVar 9) aNil))) aNil))) sNil)) [v0, v1, v2, v3, v4, v5, some (.r st.length), some (.d (.int (((m + 1 : Nat) : Int)))), v8, some (.d (oD x))] (st ++ [.lst ((wol f m).map encP)]) =
      .nx [v0, v1, v2, v3, v4, v5, some (.r st.length), none, none, none] (st ++ [.lst ((wol f (m + 1)).map encP)]) := by
  have g : (st ++ [Ob.lst ((wol f m).map encP)])[st.length]? = some (.lst ((wol f m).map encP)) := get_mid st [] _
  have il := isLst_l g
  have wl := wol_len f m
  cases x with
  | none =>
    rw [wol_succ, hx]
    simp -implicitDefEqProofs [oD]
  | some c =>
    have ap := appW_l g (by rw [List.length_map]; omega) (encP (((m + 1 : Nat) : Int), c))
    rw [set_mid, show (wol f m).map encP ++ [encP (((m + 1 : Nat) : Int), c)] = (wol f (m + 1)).map encP by rw [wol_succ, hx, List.map_append]; rfl] at ap
    have e0 : PyData.tuple [.int ((m + 1 : Nat) : Int), .int c] = encP (((m + 1 : Nat) : Int), c) := rfl
    generalize (wol f (m + 1)).map encP = W2 at *
    generalize (wol f m).map encP = W1 at *
    generalize ((m + 1 : Nat) : Int) = M at *
    simp -implicitDefEqProofs [oD, il, tupW, e0, ap]
theorem r_ways_clean {ls ss : List Int} (L : Lg ls) {a b s : Int} {at' d : Nat} (hs : ss[at']? = some s) (hd : d ≤ ls.length) (hss : ss.length < 1000) (st : Sto) :
    m_ways_on [(.d (.tuple ((ls).map .int))), (.d (.tuple ((ss).map .int))), .d (.tuple [.int a, .int b]), (.d (.int ((at' : Int)))), (.d (.int ((d : Int)))), .d (.bool true)] st = .ok (.d (.list ((wol (fcl ls s a b d) (ls.length - d)).map encP))) st := by
  have hn := L.n
  have ix : atD (ss.map PyData.int) (at' : Int) = some (.int s) := by rw [atD_nat, List.getElem?_map, hs]; rfl
  have rg : rg2W [(.d (.int (1))), (.d (.int ((ls.length : Int) - (d : Int) + 1)))] (st ++ [.lst []]) = .ok ⟨rangeD 1 (ls.length - d), []⟩ (st ++ [.lst []]) := by
    unfold rg2W
    simp [rg_ok (i := 1) (by omega) (by omega), rg_ok (i := (ls.length : Int) - (d : Int) + 1) (by omega) (by omega)]
  have lp := forL_at (g := gN 7) (b := d_ways_on_l1) (fun _ => [some (.d (.tuple ((ls).map .int))), some (.d (.tuple ((ss).map .int))), some (.d (.tuple [.int a, .int b])), some (.d (.int ((at' : Int)))), some (.d (.int ((d : Int)))), some (.d (.bool true)), some (.r st.length), none, none, none]) (fun i => st ++ [.lst ((wol (fcl ls s a b d) i).map encP)]) (rangeD 1 (ls.length - d)) fun i x hx => by
    obtain ⟨hi, rfl⟩ := rangeD_get hx
    rw [show (1 : Int) + (i : Nat) = ((i + 1 : Nat) : Int) by omega]
    refine ⟨_, rfl, ?_⟩
    have L2 : Lg (sl ls d (d + (i + 1))) := sl_lg L (by omega) (by omega)
    have e1 := fun st => r_fit L2 s a b st
    rw [← cut_sl, Int.natCast_add d (i + 1)] at e1
    have e2 := wo_end (x := fcl ls s a b d (i + 1)) (k := 0) (n := 0) (fcl ls s a b d) (m := i) (by omega) rfl (some (.d (.tuple ((ls).map .int)))) (some (.d (.tuple ((ss).map .int)))) (some (.d (.tuple [.int a, .int b]))) (some (.d (.int ((at' : Int))))) (some (.d (.int ((d : Int))))) (some (.d (.bool true))) (some (.d (.tuple (cutD (ls.map PyData.int) (some (d : Int)) (some ((d : Int) + ((i + 1 : Nat) : Int))))))) st
    have hf : fcl ls s a b d (i + 1) = if fitB (sl ls d (d + (i + 1))) s a b = true then some 0 else none := rfl
    rw [hf] at e2
    generalize ((i + 1 : Nat) : Int) = K at *
    generalize ls.map PyData.int = LS at *
    generalize ss.map PyData.int = SS at *
    generalize (wol (fcl ls s a b d) (i + 1)).map encP = W2 at *
    generalize (wol (fcl ls s a b d) i).map encP = W1 at *
    unfold d_ways_on_l1
    generalize (sIf (tBl (eOp2 ntND (eVar 9) (eK .none))) (sExp (eM appW (eVar 6) (aCons (eTup (aCons (eVar 7) (aCons (eVar 9) aNil))) aNil))) sNil) = IF at *
    rw [x_wp] at e2
    cases q : fitB (sl ls d (d + (i + 1))) s a b with
    | false =>
      rw [q, if_neg Bool.false_ne_true] at e2
      rw [show oD none = PyData.none from rfl] at e2
      simp only [q] at e1
      simp -implicitDefEqProofs at e2
      simp -implicitDefEqProofs [e1, ix, e2]
    | true =>
      rw [q, if_pos rfl] at e2
      rw [show oD (some 0) = PyData.int 0 from rfl] at e2
      simp only [q] at e1
      simp -implicitDefEqProofs at e2
      simp -implicitDefEqProofs [e1, ix, e2]
  rw [rangeD_len] at lp
  have ef := x_end_fr (Nat.le_refl st.length) (get_mid st [] (.lst ((wol (fcl ls s a b d) (ls.length - d)).map encP)))
  rw [show (wol (fcl ls s a b d) 0).map encP = [] from rfl] at lp
  have hl : lenF [.tuple (ls.map .int)] = some (.int (ls.length : Int)) := by simp
  generalize (wol (fcl ls s a b d) (ls.length - d)).map encP = W at *
  generalize ls.map PyData.int = LS at *
  generalize ss.map PyData.int = SS at *
  unfold m_ways_on d_ways_on
  simp -implicitDefEqProofs [newW, hl, rg, lp, ef, -forL_cons]
end

section
variable [Tbl]
/-! ## levels -/
def eN (d : Nat) : PyData := .int (d : Int)
def lvN (ls : List Int) (s a b : Int) (P : List Nat) : List Nat := ((List.range ls.length).map (· + 1)).filter fun t => P.any fun d => decide (d < t) && fitB (sl ls d t) s a b
def LV (ls ss : List Int) (a b : Int) : Nat → List Nat
  | 0 => [0]
  | i + 1 => lvN ls (ss.getD i 0) a b (LV ls ss a b i)
def LVs (ls ss : List Int) (a b : Int) (i : Nat) : List PyData := (List.range (i + 1)).map fun k => .tuple ((LV ls ss a b k).map eN)
theorem LVs_succ (ls ss : List Int) (a b : Int) (i : Nat) : LVs ls ss a b (i + 1) = LVs ls ss a b i ++ [.tuple ((LV ls ss a b (i + 1)).map eN)] := by
  unfold LVs
  rw [List.range_succ (n := i + 1), List.map_append]; rfl
theorem LVs_last (ls ss : List Int) (a b : Int) (i : Nat) : atD (LVs ls ss a b i) (-1) = some (.tuple ((LV ls ss a b i).map eN)) := by
  unfold LVs
  rw [List.range_succ, List.map_append]
  exact atD_last _ _
theorem LVs_len (ls ss : List Int) (a b : Int) (i : Nat) : (LVs ls ss a b i).length = i + 1 := by simp [LVs]
theorem lvN_le {ls : List Int} {s a b : Int} {P : List Nat} {t : Nat} (h : t ∈ lvN ls s a b P) : 1 ≤ t ∧ t ≤ ls.length := by
  obtain ⟨h1, _⟩ := List.mem_filter.mp h
  obtain ⟨k, hk, rfl⟩ := List.mem_map.mp h1
  have := List.mem_range.mp hk
  omega
theorem LV_le {ls ss : List Int} {a b : Int} : ∀ {i : Nat} {t : Nat}, t ∈ LV ls ss a b i → t ≤ ls.length
  | 0, t, h => by simp [LV] at h; omega
  | i + 1, t, h => (lvN_le h).2
theorem lvN_len (ls : List Int) (s a b : Int) (P : List Nat) : (lvN ls s a b P).length ≤ ls.length := Nat.le_trans (List.length_filter_le _ _) (by simp)
theorem LV_len {ls ss : List Int} {a b : Int} (h : 1 ≤ ls.length) : ∀ i : Nat, (LV ls ss a b i).length ≤ ls.length
  | 0 => h
  | i + 1 => lvN_len _ _ _ _ _
theorem rng_lt : ∀ n : Nat, ((List.range n).map (· + 1)).Pairwise (· < ·)
  | 0 => by simp
  | n + 1 => by
    rw [List.range_succ, List.map_append, List.pairwise_append]
    refine ⟨rng_lt n, by simp, fun x hx y hy => ?_⟩
    obtain ⟨k, hk, rfl⟩ := List.mem_map.mp hx
    have := List.mem_range.mp hk
    simp at hy
    omega
theorem lvN_lt (ls : List Int) (s a b : Int) (P : List Nat) : (lvN ls s a b P).Pairwise (· < ·) := (rng_lt _).filter _
/-! ### the program's dict -/
abbrev DB' := List (Int × Bool)
def puts (M : DB') (ks : List Int) : DB' := ks.foldl (fun M k => putA M k true) M
theorem puts_mem : ∀ (ks : List Int) (M : DB') (j : Int), j ∈ (puts M ks).map (·.1) ↔ j ∈ ks ∨ j ∈ M.map (·.1)
  | [], M, j => by simp [puts]
  | k :: ks, M, j => by
    show j ∈ (puts (putA M k true) ks).map (·.1) ↔ _
    rw [puts_mem ks, putA_mem, List.mem_cons]
    constructor
    · rintro (h | h | h)
      · exact .inl (.inr h)
      · exact .inl (.inl h)
      · exact .inr h
    · rintro ((h | h) | h)
      · exact .inr (.inl h)
      · exact .inl h
      · exact .inr (.inr h)
theorem puts_nd : ∀ (ks : List Int) {M : DB'}, (M.map (·.1)).Nodup → ((puts M ks).map (·.1)).Nodup
  | [], _, h => h
  | k :: ks, M, h => puts_nd ks (putA_nd k true h)
theorem puts_len : ∀ (ks : List Int) (M : DB'), (puts M ks).length ≤ M.length + ks.length
  | [], M => Nat.le_refl _
  | k :: ks, M => by
    have h1 := puts_len ks (putA M k true)
    have h2 := putA_len M k true
    show (puts (putA M k true) ks).length ≤ _
    rw [List.length_cons]; omega
theorem puts_app (M : DB') (xs ys : List Int) : puts M (xs ++ ys) = puts (puts M xs) ys := List.foldl_append
def kso (ls : List Int) (s a b : Int) (d : Nat) : List Int := (wol (fcl ls s a b d) (ls.length - d)).map fun p => (d : Int) + p.1
theorem kso_mem {ls : List Int} {s a b : Int} {d : Nat} (hd : d ≤ ls.length) {t : Int} : t ∈ kso ls s a b d ↔ ∃ u : Nat, t = u ∧ d < u ∧ u ≤ ls.length ∧ fitB (sl ls d u) s a b = true := by
  unfold kso wol
  simp only [List.mem_map, List.mem_filterMap, List.mem_range]
  constructor
  · rintro ⟨p, ⟨k, hk, e⟩, rfl⟩
    unfold fcl at e
    split at e
    · rename_i hf
      cases e
      exact ⟨d + (k + 1), by show (d : Int) + ((k + 1 : Nat) : Int) = _; omega, by omega, by omega, hf⟩
    · cases e
  · rintro ⟨u, rfl, h1, h2, h3⟩
    refine ⟨(((u - d - 1 + 1 : Nat) : Int), 0), ⟨u - d - 1, by omega, ?_⟩, by simp only; omega⟩
    unfold fcl
    rw [show d + (u - d - 1 + 1) = u by omega, if_pos h3]; rfl
theorem kso_len (ls : List Int) (s a b : Int) (d : Nat) : (kso ls s a b d).length ≤ ls.length := by
  unfold kso
  rw [List.length_map]
  have := wol_len (fcl ls s a b d) (ls.length - d)
  omega
/-- what the dict's keys are, sorted -/
theorem sort_keys {ls : List Int} {s a b : Int} {P : List Nat} (hP : ∀ d ∈ P, d ≤ ls.length) : sortT false .int ((puts [] (P.flatMap (kso ls s a b))).map (·.1)) = (lvN ls s a b P).map fun t : Nat => (t : Int) := by
  have pl : ((lvN ls s a b P).map fun t : Nat => (t : Int)).Pairwise (· < ·) := by
    rw [List.pairwise_map]
    exact (lvN_lt ls s a b P).imp fun h => by omega
  refine sortI_eq ?_ (pl.imp fun h => by omega)
  refine (List.perm_ext_iff_of_nodup (puts_nd _ (by simp)) (pl.imp fun h => by omega)).mpr fun x => ?_
  rw [puts_mem]
  simp only [List.map_nil, List.not_mem_nil, or_false, List.mem_flatMap, List.mem_map]
  constructor
  · rintro ⟨d, hd, hx⟩
    obtain ⟨u, rfl, h1, h2, h3⟩ := (kso_mem (hP d hd)).mp hx
    refine ⟨u, ?_, rfl⟩
    unfold lvN
    rw [List.mem_filter]
    refine ⟨List.mem_map.mpr ⟨u - 1, List.mem_range.mpr (by omega), by omega⟩, List.any_eq_true.mpr ⟨d, hd, ?_⟩⟩
    rw [Bool.and_eq_true, decide_eq_true_eq]
    exact ⟨h1, h3⟩
  · rintro ⟨u, hu, rfl⟩
    have hl := lvN_le hu
    unfold lvN at hu
    rw [List.mem_filter, List.any_eq_true] at hu
    obtain ⟨_, d, hd, h⟩ := hu
    rw [Bool.and_eq_true, decide_eq_true_eq] at h
    exact ⟨d, hd, (kso_mem (hP d hd)).mpr ⟨u, rfl, h.1, hl.2, h.2⟩⟩
end

section
variable [Tbl]
/-! ## the program's levels -/
def eB : Bool → PyData := .bool
theorem lb_1 {M : DB'} (hM : M.length < 1000000) {d k : Int} {h : Nat} {st : Sto} (hh : h < st.length) (v0 v1 v2 v3 v4 v8 : Option Wv) :
    d_levels_by_l1 [v0, v1, v2, v3, v4, some (.r h), some (.d (.int (d))), some (.d (.int (k))), v8] (st.set h (.dct (dI eB M))) = .nx [v0, v1, v2, v3, v4, some (.r h), some (.d (.int (d))), none, none] (st.set h (.dct (dI eB (putA M (d + k) true)))) := by
  have g : (st.set h (Ob.dct (dI eB M)))[h]? = some (.dct (dI eB M)) := List.getElem?_set_self hh
  have e6 := dI_set (e := eB) g hM (d + k) true
  rw [List.set_set, show eB true = PyData.bool true from rfl] at e6
  generalize dI eB (putA M (d + k) true) = M2 at *
  generalize dI eB M = M1 at *
  unfold d_levels_by_l1
  simp -implicitDefEqProofs [sixW, e6]
theorem lb_2 {ls ss : List Int} (L : Lg ls) {a b s : Int} {at' d : Nat} (hs : ss[at']? = some s) (hd : d ≤ ls.length) (hss : ss.length < 1000) {M : DB'} (hM : M.length < 10000) {h : Nat} {st : Sto} (hh : h < st.length) (v3 : Option Wv) :
    d_levels_by_l2 [some (.d (.tuple ((ls).map .int))), some (.d (.tuple ((ss).map .int))), some (.d (.tuple [.int a, .int b])), v3, some (.d (.int ((at' : Int)))), some (.r h), some (.d (eN d)), none, none] (st.set h (.dct (dI eB M))) =
      .nx [some (.d (.tuple ((ls).map .int))), some (.d (.tuple ((ss).map .int))), some (.d (.tuple [.int a, .int b])), v3, some (.d (.int ((at' : Int)))), some (.r h), none, none, none] (st.set h (.dct (dI eB (puts M (kso ls s a b d))))) := by
  have e1 := fun st => r_ways_clean L (a := a) (b := b) hs hd hss st
  have wl := wol_len (fcl ls s a b d) (ls.length - d)
  have hn := L.n
  have lp := forL_at (g := gTp (gCn (gN 7) (gCn (gN 8) gNl))) (b := d_levels_by_l1) (fun _ => [some (.d (.tuple ((ls).map .int))), some (.d (.tuple ((ss).map .int))), some (.d (.tuple [.int a, .int b])), v3, some (.d (.int ((at' : Int)))), some (.r h), some (.d (eN d)), none, none]) (fun i => st.set h (.dct (dI eB (puts M ((kso ls s a b d).take i))))) ((wol (fcl ls s a b d) (ls.length - d)).map encP) fun i x hx => by
    rw [List.getElem?_map] at hx
    obtain ⟨p, hp, rfl⟩ := Option.map_eq_some_iff.mp hx
    have hk : (kso ls s a b d)[i]? = some ((d : Int) + p.1) := by unfold kso; rw [List.getElem?_map, hp]; rfl
    have pl := puts_len ((kso ls s a b d).take i) M
    have tl : ((kso ls s a b d).take i).length ≤ (kso ls s a b d).length := by rw [List.length_take]; omega
    have kl := kso_len ls s a b d
    refine ⟨_, rfl, ?_⟩
    rw [List.take_add_one, hk, puts_app]
    exact lb_1 (M := puts M ((kso ls s a b d).take i)) (by omega) hh (some (.d (.tuple ((ls).map .int)))) (some (.d (.tuple ((ss).map .int)))) (some (.d (.tuple [.int a, .int b]))) v3 (some (.d (.int ((at' : Int))))) (some (.d (.int p.2)))
  rw [List.take_zero, show puts M [] = M from rfl, List.take_of_length_le (by rw [List.length_map]; unfold kso; rw [List.length_map]; exact Nat.le_refl _)] at lp
  generalize dI eB (puts M (kso ls s a b d)) = M2 at *
  generalize dI eB M = M1 at *
  generalize (wol (fcl ls s a b d) (ls.length - d)).map encP = WW at *
  have en : eN d = .int (d : Int) := rfl
  rw [en] at lp ⊢
  unfold d_levels_by_l2
  simp -implicitDefEqProofs [e1, srcW_dl, lp, -forL_cons]
theorem lb_3 {ls ss : List Int} (L : Lg ls) {a b : Int} {i : Nat} (hi : i < ss.length) (hss : ss.length < 1000) {st rest : Sto} :
    ∃ rest', d_levels_by_l3 [some (.d (.tuple ((ls).map .int))), some (.d (.tuple ((ss).map .int))), some (.d (.tuple [.int a, .int b])), some (.r st.length), some (.d (.int ((i : Int)))), none, none, none, none] (st ++ .lst (LVs ls ss a b i) :: rest) =
      .nx [some (.d (.tuple ((ls).map .int))), some (.d (.tuple ((ss).map .int))), some (.d (.tuple [.int a, .int b])), some (.r st.length), none, none, none, none, none] (st ++ .lst (LVs ls ss a b (i + 1)) :: rest') := by
  have hs : ss[i]? = some (ss.getD i 0) := by rw [List.getD_eq_getElem?_getD, List.getElem?_eq_getElem hi]; rfl
  have hn := L.n
  have hP : ∀ d ∈ LV ls ss a b i, d ≤ ls.length := fun d hd => LV_le hd
  have hPl := LV_len (ls := ls) (ss := ss) (a := a) (b := b) hn.1 i
  have hla := LVs_last ls ss a b i
  have hl1 := look1_l (get_mid st rest (.lst (LVs ls ss a b i)))
  generalize hP' : LV ls ss a b i = P at *
  obtain ⟨X, hX⟩ : ∃ X, X = st ++ Ob.lst (LVs ls ss a b i) :: rest ++ [Ob.dct []] := ⟨_, rfl⟩
  have hXl : X.length = st.length + 1 + rest.length + 1 := by rw [hX]; simp; omega
  have hh : st.length + 1 + rest.length < X.length := by omega
  have hXs : X.set (st.length + 1 + rest.length) (.dct (dI eB [])) = X := by
    refine List.ext_getElem? fun j => ?_
    by_cases q : st.length + 1 + rest.length = j
    · subst q
      rw [List.getElem?_set_self hh, hX, List.getElem?_append_right (by simp; omega), show st.length + 1 + rest.length - (st ++ Ob.lst (LVs ls ss a b i) :: rest).length = 0 by simp; omega]
      rfl
    · rw [List.getElem?_set_ne q]
  have ksl : ∀ i, (P.take i).length ≤ 12 := fun i => by rw [List.length_take]; omega
  have kfl : ∀ (Q : List Nat), (Q.flatMap (kso ls (ss.getD i 0) a b)).length ≤ Q.length * 12 := fun Q => by
    induction Q with
    | nil => simp
    | cons d Q ih =>
      have := kso_len ls (ss.getD i 0) a b d
      rw [List.flatMap_cons, List.length_append, List.length_cons, Nat.succ_mul]; omega
  have lp := forL_at (g := gN 6) (b := d_levels_by_l2) (fun _ => [some (.d (.tuple ((ls).map .int))), some (.d (.tuple ((ss).map .int))), some (.d (.tuple [.int a, .int b])), some (.r st.length), some (.d (.int ((i : Int)))), some (.r (st.length + 1 + rest.length)), none, none, none]) (fun j => X.set (st.length + 1 + rest.length) (.dct (dI eB (puts [] ((P.take j).flatMap (kso ls (ss.getD i 0) a b)))))) (P.map eN) fun j x hx => by
    rw [List.getElem?_map] at hx
    obtain ⟨d, hd, rfl⟩ := Option.map_eq_some_iff.mp hx
    have pl := puts_len ((P.take j).flatMap (kso ls (ss.getD i 0) a b)) []
    have k1 := kfl (P.take j)
    have k2 := ksl j
    refine ⟨_, rfl, ?_⟩
    rw [List.take_add_one, hd, List.flatMap_append, puts_app]
    have e := lb_2 L (a := a) (b := b) hs (hP d (List.mem_of_getElem? hd)) hss (M := puts [] ((P.take j).flatMap (kso ls (ss.getD i 0) a b))) (by rw [List.length_nil] at pl; omega) hh (some (.r st.length))
    rw [show (some d).toList.flatMap (kso ls (ss.getD i 0) a b) = kso ls (ss.getD i 0) a b d by simp]
    exact e
  rw [List.take_zero, List.flatMap_nil, show puts [] [] = [] from rfl, hXs, List.length_map, List.take_length] at lp
  have pl := puts_len (P.flatMap (kso ls (ss.getD i 0) a b)) []
  have k1 := kfl P
  have gk : (X.set (st.length + 1 + rest.length) (Ob.dct (dI eB (puts [] (P.flatMap (kso ls (ss.getD i 0) a b))))))[st.length + 1 + rest.length]? = some (.dct (dI eB (puts [] (P.flatMap (kso ls (ss.getD i 0) a b))))) := List.getElem?_set_self hh
  have gf : (X.set (st.length + 1 + rest.length) (Ob.dct (dI eB (puts [] (P.flatMap (kso ls (ss.getD i 0) a b))))))[st.length]? = some (.lst (LVs ls ss a b i)) := by
    rw [List.getElem?_set_ne (by omega), hX, List.append_assoc, List.cons_append]; exact get_mid st _ _
  have sk := sort_keys (s := ss.getD i 0) (a := a) (b := b) hP
  have lk : looks [.r (st.length + 1 + rest.length)] (X.set (st.length + 1 + rest.length) (Ob.dct (dI eB (puts [] (P.flatMap (kso ls (ss.getD i 0) a b)))))) = some [.dict (dI eB (puts [] (P.flatMap (kso ls (ss.getD i 0) a b))))] := by
    show (match look _ _, some [] with | some d, some ds => some (d :: ds) | _, _ => none) = _
    rw [look_dk gk]
  have ol := o_lsd (dI_kind eB (puts [] (P.flatMap (kso ls (ss.getD i 0) a b)))) (by rw [dI_len]; rw [List.length_nil] at pl; omega)
  rw [dI_keys] at ol
  have os := o_srt_ints (b := false) ((puts [] (P.flatMap (kso ls (ss.getD i 0) a b))).map (·.1)) (by rw [List.length_map]; rw [List.length_nil] at pl; omega)
  have os := srtF_of os
  rw [sk, show ((lvN ls (ss.getD i 0) a b P).map fun t : Nat => (t : Int)).map PyData.int = (lvN ls (ss.getD i 0) a b P).map eN by rw [List.map_map]; rfl] at os
  rw [show lvN ls (ss.getD i 0) a b P = LV ls ss a b (i + 1) by rw [← hP']; rfl] at os
  have ap := appW_l gf (by rw [LVs_len]; omega) (.tuple ((LV ls ss a b (i + 1)).map eN))
  rw [← LVs_succ] at ap
  have il := isLst_l gf
  have sM : (X.set (st.length + 1 + rest.length) (Ob.dct (dI eB (puts [] (P.flatMap (kso ls (ss.getD i 0) a b)))))).set st.length (.lst (LVs ls ss a b (i + 1))) = st ++ .lst (LVs ls ss a b (i + 1)) :: (rest ++ [.dct (dI eB (puts [] (P.flatMap (kso ls (ss.getD i 0) a b))))]) := by
    rw [hX, List.append_assoc, List.cons_append, List.set_append_right _ _ (by omega), show st.length + 1 + rest.length - st.length = rest.length + 1 by omega, List.set_cons_succ, List.set_append_right _ _ (by omega), Nat.sub_self, List.set_cons_zero, set_mid]
  rw [sM] at ap
  refine ⟨rest ++ [.dct (dI eB (puts [] (P.flatMap (kso ls (ss.getD i 0) a b))))], ?_⟩
  generalize ((puts [] (P.flatMap (kso ls (ss.getD i 0) a b))).map (·.1)).map PyData.int = KI at *
  generalize dI eB (puts [] (P.flatMap (kso ls (ss.getD i 0) a b))) = DD at *
  generalize X.set (st.length + 1 + rest.length) (Ob.dct DD) = SF at *
  have hXX : st ++ (Ob.lst (LVs ls ss a b i) :: (rest ++ [Ob.dct []])) = X := by rw [hX]; simp
  have nl : (st ++ Ob.lst (LVs ls ss a b i) :: rest).length = st.length + 1 + rest.length := by simp; omega
  generalize (LV ls ss a b (i + 1)).map eN = NN at *
  generalize LVs ls ss a b (i + 1) = F2 at *
  generalize P.map eN = PN at *
  generalize hF1 : LVs ls ss a b i = F1 at *
  have lkX : look1 (.r st.length) X = fun f => f (.list F1) := by
    funext f
    rw [← hXX]
    exact look1_l (get_mid st _ _) f
  generalize hS0 : st ++ Ob.lst F1 :: rest = S0 at *
  have hXX2 : S0 ++ [Ob.dct []] = X := by rw [← hS0, ← hXX]; simp
  unfold d_levels_by_l3
  simp -implicitDefEqProofs [nl, hXX2, lkX, hla, srcW_dt, lp, il, lk, ol, os, ap, -forL_cons]
end

section
variable [Tbl]
open PySem.W (Datum DatumOrd Tup minOf maxOf listLt)
theorem r_levels_by {ls ss : List Int} (L : Lg ls) {a b : Int} (S : Sps ss) (st : Sto) : m_levels_by [(.d (.tuple ((ls).map .int))), (.d (.tuple ((ss).map .int))), .d (.tuple [.int a, .int b])] st = .ok (.r st.length) (st ++ [.lst (LVs ls ss a b ss.length)]) := by
  have hn := S.n
  obtain ⟨env, st1, e1, rest, rfl, rfl⟩ := forL_goI (g := gN 4) (b := d_levels_by_l3) (fun i env st' => ∃ rest, env = [some (.d (.tuple ((ls).map .int))), some (.d (.tuple ((ss).map .int))), some (.d (.tuple [.int a, .int b])), some (.r st.length), none, none, none, none, none] ∧ st' = st ++ .lst (LVs ls ss a b i) :: rest) (rangeD 0 ss.length) 0 (fun i x hx env st' hI => by
    rw [Nat.zero_add] at hI ⊢
    obtain ⟨rest, rfl, rfl⟩ := hI
    obtain ⟨hi, rfl⟩ := rangeD_get hx
    rw [Int.zero_add]
    obtain ⟨rest', e⟩ := lb_3 L (a := a) (b := b) hi (by omega) (st := st) (rest := rest)
    exact ⟨_, _, _, rfl, e, rest', rfl, rfl⟩) [some (.d (.tuple ((ls).map .int))), some (.d (.tuple ((ss).map .int))), some (.d (.tuple [.int a, .int b])), some (.r st.length), none, none, none, none, none] (st ++ [.lst [.tuple [.int 0]]]) ⟨[], rfl, rfl⟩
  rw [rangeD_len, Nat.zero_add] at e1
  have rg := rg1_ok (i := (ss.length : Int)) (st ++ [.lst [.tuple [.int 0]]]) (by omega) (by omega)
  rw [show ((ss.length : Int)).toNat = ss.length by omega] at rg
  have hl : lenF [.tuple (ss.map .int)] = some (.int (ss.length : Int)) := by simp
  have er := x_end_r (Nat.le_refl st.length) (get_mid st rest (.lst (LVs ls ss a b ss.length)))
  rw [take_mid] at er
  generalize LVs ls ss a b ss.length = F at *
  generalize ls.map PyData.int = LS at *
  generalize ss.map PyData.int = SS at *
  unfold m_levels_by d_levels_by
  simp -implicitDefEqProofs [tupW, newW, hl, rg, e1, er, -forL_cons]
theorem r_levels {ls ss : List Int} (L : Lg ls) {a b : Int} (J : 0 ≤ a ∧ a ≤ b ∧ b ≤ 9) (S : Sps ss) (st : Sto) : m_levels [(.d (.tuple ((ls).map .int))), (.d (.tuple ((ss).map .int))), .d (.tuple [.int a, .int b])] st = .ok (.r st.length) (st ++ [.lst (LVs ls ss a b ss.length)]) := by
  have e1 := fun st => r_need_some L S J st
  have e2 := fun st => r_levels_by L (a := a) (b := b) S st
  generalize LVs ls ss a b ss.length = F at *
  generalize ls.map PyData.int = LS at *
  generalize ss.map PyData.int = SS at *
  unfold m_levels d_levels
  simp -implicitDefEqProofs [e1, e2]
/-- the least span that none fills; -1; None -/
def stk (n : Nat) (L : List (List Nat)) : PyData := if n ∈ (L.getLast?.getD []) then .int (-1) else match (L.zipIdx.filter fun p => p.1.isEmpty).head? with
  | some p => .int (p.2 : Int)
  | none => .none
def lvT (ls ss : List Int) (a b : Int) : List (List Nat) := (List.range (ss.length + 1)).map (LV ls ss a b)
def eT (l : List Nat) : PyData := .tuple (l.map eN)
theorem lvT_data (ls ss : List Int) (a b : Int) : LVs ls ss a b ss.length = (lvT ls ss a b).map eT := by unfold LVs lvT; rw [List.map_map]; rfl
theorem lvT_last (ls ss : List Int) (a b : Int) : (lvT ls ss a b).getLast? = some (LV ls ss a b ss.length) := by
  unfold lvT
  rw [List.range_succ, List.map_append]; simp
theorem in_lv (n : Nat) (l : List Nat) : inD (.int (n : Int)) (eT l) = some (.bool (decide (n ∈ l))) := by
  have h := q_in_t (n : Int) (l.map fun d : Nat => (d : Int))
  have e : ((l.map fun d : Nat => (d : Int)).map Datum.toD) = l.map eN := by rw [List.map_map]; rfl
  rw [e] at h
  have e2 : decide ((n : Int) ∈ l.map fun d : Nat => (d : Int)) = decide (n ∈ l) := by
    rw [decide_eq_decide, List.mem_map]
    constructor
    · rintro ⟨d, hd, e⟩
      have : d = n := by omega
      rw [← this]; exact hd
    · exact fun h => ⟨n, h, rfl⟩
  rw [e2] at h
  exact h
theorem eq_nil_t (l : List Nat) : eqD (eT l) (.tuple []) = some (.bool l.isEmpty) := by
  have h := q_eq (⟨l.map fun d : Nat => (d : Int)⟩ : Tup Int) (⟨[]⟩ : Tup Int)
  have e1 : Datum.toD (⟨l.map fun d : Nat => (d : Int)⟩ : Tup Int) = eT l := by
    show PyData.tuple ((l.map fun d : Nat => (d : Int)).map PyData.int) = PyData.tuple (l.map eN)
    rw [List.map_map]; rfl
  rw [e1] at h
  have e2 : decide ((⟨l.map fun d : Nat => (d : Int)⟩ : Tup Int) = (⟨[]⟩ : Tup Int)) = l.isEmpty := by
    cases l with
    | nil => simp
    | cons d l => simp
  rw [e2] at h
  exact h
end

section
variable [Tbl]
open PySem.W (Datum DatumOrd Tup minOf maxOf listLt)
theorem forL_seekL {α : Type} {g : Wv → En → Option En} {b : En → Sto → SR} {env : En} {st : Sto} {lv : List (Nat × List PyData)} (hl : lvOk lv st) (enc : α → PyData) (q : α → Option Rt) : ∀ (L : List α), (∀ a ∈ L, ∃ env1, g (.d (enc a)) env = some env1 ∧ b env1 st = seek (q a) env st) →
    forL g b lv (L.map enc) env st = seek (L.findSome? q) env st
  | [], _ => by simp [forL, hl]
  | a :: L, h => by
    obtain ⟨env1, e1, e2⟩ := h a (by simp)
    rw [List.map_cons]
    unfold forL
    rw [if_pos hl, e1, List.findSome?_cons]
    dsimp only
    rw [e2]
    cases q a with
    | none => exact forL_seekL hl enc q L fun x hx => h x (by simp [hx])
    | some r => rfl
theorem find_filter {α β : Type} (c : α → Bool) (f : α → β) : ∀ L : List α, (L.findSome? fun a => if c a = true then some (f a) else none) = (L.filter c).head?.map f
  | [] => rfl
  | a :: L => by
    rw [List.findSome?_cons, List.filter_cons]
    cases c a with
    | true => simp
    | false => simpa using find_filter c f L
def eE (p : List Nat × Nat) : PyData := .tuple [.int (p.2 : Int), eT p.1]
theorem enum_zip (L : List (List Nat)) : enumD (L.map eT) = L.zipIdx.map eE := by
  refine List.ext_getElem? fun i => ?_
  unfold enumD
  rw [List.getElem?_mapIdx, List.getElem?_map, List.getElem?_map, List.getElem?_zipIdx]
  cases L[i]? with
  | none => rfl
  | some l => simp [eE]
theorem last_data {n : Nat} (L : List (List Nat)) (h : L ≠ []) : atD (L.map eT) (-1) = some (eT (L.getLast?.getD [])) := by
  have e : L = L.dropLast ++ [L.getLast h] := (List.dropLast_concat_getLast h).symm
  rw [e, List.map_append]
  have e2 : (L.dropLast ++ [L.getLast h]).getLast? = some (L.getLast h) := by simp
  rw [e2]
  exact atD_last _ _
section
variable {ls ss : List Int} (L : Lg ls) {a b : Int} (J : 0 ≤ a ∧ a ≤ b ∧ b ≤ 9) (S : Sps ss)
include L J S
theorem r_stuck (st : Sto) : m_stuck [(.d (.tuple ((ls).map .int))), (.d (.tuple ((ss).map .int))), .d (.tuple [.int a, .int b])] st = .ok (.d (stk ls.length (lvT ls ss a b))) st := by
  have hn := S.n
  have e1 := fun st => r_need_some L S J st
  have e2 := r_levels_by L (a := a) (b := b) S st
  rw [lvT_data] at e2
  have hne : lvT ls ss a b ≠ [] := by unfold lvT; simp
  have la := last_data (n := 0) (lvT ls ss a b) hne
  have il := in_lv ls.length ((lvT ls ss a b).getLast?.getD [])
  have g : (st ++ [Ob.lst ((lvT ls ss a b).map eT)])[st.length]? = some (.lst ((lvT ls ss a b).map eT)) := get_mid st [] _
  have lk := look1_l g
  have hl : lenF [.tuple (ls.map .int)] = some (.int (ls.length : Int)) := by simp
  have lp := forL_seekL (g := gTp (gCn (gN 4) (gCn (gN 5) gNl))) (b := d_stuck_l1) (env := [some (.d (.tuple ((ls).map .int))), some (.d (.tuple ((ss).map .int))), some (.d (.tuple [.int a, .int b])), some (.r st.length), none, none]) (st := st ++ [.lst ((lvT ls ss a b).map eT)]) (lv := [(st.length, (lvT ls ss a b).map eT)]) (by rw [lvOk_one]; exact g) eE (fun p => if p.1.isEmpty = true then some (.w (.d (.int (p.2 : Int)))) else none) (lvT ls ss a b).zipIdx fun p _ => by
    refine ⟨_, rfl, ?_⟩
    have en := eq_nil_t p.1
    generalize eT p.1 = E at *
    generalize ((p.2 : Nat) : Int) = K at *
    generalize st ++ [Ob.lst ((lvT ls ss a b).map eT)] = SF at *
    unfold d_stuck_l1
    cases q : p.1.isEmpty <;> rw [q] at en <;> simp -implicitDefEqProofs [en, tupW]
  rw [← enum_zip, find_filter] at lp
  have es : seqW (.r st.length) (st ++ [.lst ((lvT ls ss a b).map eT)]) = some ⟨(lvT ls ss a b).map eT, [(st.length, (lvT ls ss a b).map eT)]⟩ := by unfold seqW; dsimp only; rw [g]
  have tk : (st ++ [Ob.lst ((lvT ls ss a b).map eT)]).take st.length = st := take_mid _ _
  unfold stk
  generalize eT ((lvT ls ss a b).getLast?.getD []) = LA at *
  generalize (lvT ls ss a b).getLast?.getD [] = LN at *
  generalize ((lvT ls ss a b).zipIdx.filter fun p => p.1.isEmpty).head? = HD at *
  generalize (lvT ls ss a b).map eT = XS at *
  generalize ls.map PyData.int = LS at *
  generalize ss.map PyData.int = SS at *
  generalize st ++ [Ob.lst XS] = SF at *
  unfold m_stuck d_stuck
  by_cases q : ls.length ∈ LN
  · rw [decide_eq_true q] at il
    rw [if_pos q]
    simp -implicitDefEqProofs [e1, e2, lk, la, hl, il, tk]
  · rw [decide_eq_false q] at il
    rw [if_neg q]
    cases HD with
    | none =>
      simp -implicitDefEqProofs at lp
      simp -implicitDefEqProofs [e1, e2, lk, la, hl, il, enumW, es, lp, tk]
    | some p =>
      simp -implicitDefEqProofs at lp
      simp -implicitDefEqProofs [e1, e2, lk, la, hl, il, enumW, es, lp, tk]
end
end

section
variable [Tbl]
open PySem.W (Datum DatumOrd Tup minOf maxOf listLt)
/-! ## the best parting -/
abbrev Bt := Int × Tup Int
def eO : Option Bt → PyData
  | none => .none
  | some z => Datum.toD z
def bcand (w : List (Int × Int)) (B : Nat → Option Bt) (d : Nat) : List Bt := w.filterMap fun p => (B (d + p.1.toNat)).map fun r => (p.2 + r.1, ⟨p.1 :: r.2.items⟩)
/-- the best of the last k spans -/
def btab (w : Nat → Nat → List (Int × Int)) (n len : Nat) : Nat → Nat → Option Bt
  | 0, d => if d = n then some (0, ⟨[]⟩) else none
  | k + 1, d => leastOf (bcand (w (len - 1 - k) d) (btab w n len k) d)
def btL (w : Nat → Nat → List (Int × Int)) (n len k m : Nat) : List PyData := (List.range m).map fun d => eO (btab w n len k d)
theorem btL_succ (w : Nat → Nat → List (Int × Int)) (n len k m : Nat) : btL w n len k (m + 1) = btL w n len k m ++ [eO (btab w n len k m)] := by
  unfold btL
  rw [List.range_succ, List.map_append]; rfl
theorem btL_len (w : Nat → Nat → List (Int × Int)) (n len k m : Nat) : (btL w n len k m).length = m := by simp [btL]
theorem btL_at {w : Nat → Nat → List (Int × Int)} {n len k m d : Nat} (h : d < m) : atD (btL w n len k m) (d : Int) = some (eO (btab w n len k d)) := by
  unfold btL
  rw [atD_nat, List.getElem?_map, List.getElem?_range h]; rfl
theorem bt_depth : Datum.depth Bt ≤ 38 := by decide
theorem ne_nil_b (xs : List Bt) : neD (.list (xs.map Datum.toD)) (.list []) = some (.bool (!xs.isEmpty)) := by
  have q : neD (.list (xs.map Datum.toD)) (.list []) = some (.bool (!decide (xs = []))) := q_ne xs ([] : List Bt)
  rw [q]
  cases xs <;> simp
structure WayOk (ls ss : List Int) (a b : Int) (C : PyData) (w : Nat → Nat → List (Int × Int)) : Prop where
  run : ∀ at' d st, at' < ss.length → d ≤ ls.length → m_ways_on [(.d (.tuple ((ls).map .int))), (.d (.tuple ((ss).map .int))), .d (.tuple [.int a, .int b]), (.d (.int ((at' : Int)))), (.d (.int ((d : Int)))), .d C] st = .ok (.d (.list ((w at' d).map encP))) st
  b : ∀ at' d, at' < ss.length → d ≤ ls.length → ∀ p ∈ w at' d, 1 ≤ p.1 ∧ p.1 ≤ ((ls.length - d : Nat) : Int)
  n : ∀ at' d, (w at' d).length ≤ ls.length
theorem bf_1 {B : Nat → Option Bt} (hBl : ∀ x r, B x = some r → r.2.items.length ≤ 100) {BL : List PyData} {d : Nat} {p : Int × Int} (hp : 1 ≤ p.1) (hB : atD BL (((d + p.1.toNat : Nat) : Int)) = some (eO (B (d + p.1.toNat)))) {w : Wv} {h : Nat} {st : Sto} {C : List Bt} (hh : h < st.length) (hw : ∀ o, look (st.set h o) w = some (.list BL)) (hC : C.length < 1000) (v0 v1 v2 v3 v5 v6 : Option Wv) :
    d_best_from_l1 [v0, v1, v2, v3, some w, v5, v6, some (.d (.int ((d : Int)))), some (.r h), some (.d (.int (p.1))), some (.d (.int (p.2))), none] (st.set h (.lst (C.map Datum.toD))) =
      .nx [v0, v1, v2, v3, some w, v5, v6, some (.d (.int ((d : Int)))), some (.r h), none, none, none] (st.set h (.lst ((C ++ bcand [p] B d).map Datum.toD))) := by
  have e1 := look1_w (hw (.lst (C.map Datum.toD)))
  have g : (st.set h (Ob.lst (C.map Datum.toD)))[h]? = some (.lst (C.map Datum.toD)) := List.getElem?_set_self hh
  have il := isLst_l g
  have hc : ((d + p.1.toNat : Nat) : Int) = (d : Int) + p.1 := by omega
  rw [hc] at hB
  have hbc : bcand [p] B d = match B (d + p.1.toNat) with
    | some r => [(p.2 + r.1, ⟨p.1 :: r.2.items⟩)]
    | none => [] := by
    unfold bcand
    cases h : B (d + p.1.toNat) <;> simp [h]
  rw [hbc]
  cases hr : B (d + p.1.toNat) with
  | none =>
    rw [hr] at hB
    rw [show eO none = PyData.none from rfl] at hB
    dsimp only
    rw [List.append_nil]
    unfold d_best_from_l1
    simp -implicitDefEqProofs [e1, hB]
  | some r =>
    rw [hr] at hB
    rw [show eO (some r) = PyData.tuple [.int r.1, .tuple (r.2.items.map .int)] from rfl] at hB
    dsimp only
    have ap := appW_l g (by rw [List.length_map]; omega) (Datum.toD ((p.2 + r.1, ⟨p.1 :: r.2.items⟩) : Bt))
    rw [List.set_set, show C.map Datum.toD ++ [Datum.toD ((p.2 + r.1, ⟨p.1 :: r.2.items⟩) : Bt)] = (C ++ [((p.2 + r.1, ⟨p.1 :: r.2.items⟩) : Bt)]).map Datum.toD by simp] at ap
    have et : Datum.toD ((p.2 + r.1, ⟨p.1 :: r.2.items⟩) : Bt) = PyData.tuple [.int (p.2 + r.1), .tuple (PyData.int p.1 :: r.2.items.map .int)] := rfl
    rw [et] at ap
    have hl := hBl _ _ hr
    have hl2 : 1 + (r.2.items.map PyData.int).length ≤ 1000000 := by rw [List.length_map]; omega
    generalize (C ++ [((p.2 + r.1, ⟨p.1 :: r.2.items⟩) : Bt)]).map Datum.toD = C2 at *
    generalize C.map Datum.toD = C1 at *
    generalize r.2.items.map PyData.int = RI at *
    unfold d_best_from_l1
    simp -implicitDefEqProofs [e1, hB, il, tupW, hl2, ap]
theorem bcand_app (w1 w2 : List (Int × Int)) (B : Nat → Option Bt) (d : Nat) : bcand (w1 ++ w2) B d = bcand w1 B d ++ bcand w2 B d := List.filterMap_append
theorem bcand_len (w : List (Int × Int)) (B : Nat → Option Bt) (d : Nat) : (bcand w B d).length ≤ w.length := List.length_filterMap_le _ _
theorem look_lt {st : Sto} {w : Wv} {i : Nat} {d : PyData} (h : look st w = some d) (hi : w = .r i) : i < st.length := by
  subst hi
  rcases Nat.lt_or_ge i st.length with q | q
  · exact q
  · simp only [look] at h; rw [List.getElem?_eq_none q] at h; cases h
theorem look_ext {st : Sto} {w : Wv} {d : PyData} (h : look st w = some d) {st' : Sto} (e : ∀ i, i < st.length → st'[i]? = st[i]?) : look st' w = some d := by
  cases w with
  | d x => exact h
  | x a c d => cases h
  | r i =>
    have hi := look_lt h rfl
    simp only [look] at h ⊢
    rw [e i hi]; exact h
section
variable {ls ss : List Int} {a b : Int} {C : PyData} {w : Nat → Nat → List (Int × Int)} (Lg0 : 1 ≤ ls.length ∧ ls.length ≤ 12) (Sp0 : 1 ≤ ss.length ∧ ss.length ≤ 6) (WK : WayOk ls ss a b C w)
include Lg0 Sp0 WK
theorem btab_len : ∀ (k d : Nat) (r : Bt), btab w ls.length ss.length k d = some r → r.2.items.length ≤ k
  | 0, d, r, h => by
    unfold btab at h
    split at h
    · cases h; exact Nat.zero_le _
    · cases h
  | k + 1, d, r, h => by
    have hm := leastOf_mem h
    unfold bcand at hm
    obtain ⟨p, _, hp⟩ := List.mem_filterMap.mp hm
    obtain ⟨r', h', rfl⟩ := Option.map_eq_some_iff.mp hp
    have := btab_len k _ _ h'
    show (p.1 :: r'.2.items).length ≤ _
    rw [List.length_cons]; omega
theorem bf_2 {k : Nat} (hk : k < ss.length) {d : Nat} (hd : d ≤ ls.length) {wb : Wv} {st rest : Sto} (hw : look st wb = some (.list (btL w ls.length ss.length k (ls.length + 1)))) :
    ∃ rest', d_best_from_l2 [some (.d (.tuple ((ls).map .int))), some (.d (.tuple ((ss).map .int))), some (.d (.tuple [.int a, .int b])), some (.d C), some wb, some (.d (.int (((ss.length - 1 - k : Nat) : Int)))), some (.r st.length), some (.d (.int ((d : Int)))), none, none, none, none] (st ++ .lst (btL w ls.length ss.length (k + 1) d) :: rest) =
      .nx [some (.d (.tuple ((ls).map .int))), some (.d (.tuple ((ss).map .int))), some (.d (.tuple [.int a, .int b])), some (.d C), some wb, some (.d (.int (((ss.length - 1 - k : Nat) : Int)))), some (.r st.length), none, none, none, none, none] (st ++ .lst (btL w ls.length ss.length (k + 1) (d + 1)) :: rest') := by
  have er := WK.run (ss.length - 1 - k) d (st ++ .lst (btL w ls.length ss.length (k + 1) d) :: (rest ++ [.lst []])) (by omega) hd
  have wb1 := WK.b (ss.length - 1 - k) d (by omega) hd
  have wn := WK.n (ss.length - 1 - k) d
  generalize hW : w (ss.length - 1 - k) d = W at *
  obtain ⟨X, hX⟩ : ∃ X, X = st ++ Ob.lst (btL w ls.length ss.length (k + 1) d) :: (rest ++ [Ob.lst []]) := ⟨_, rfl⟩
  have hXl : X.length = st.length + 1 + rest.length + 1 := by rw [hX]; simp; omega
  have hh : st.length + 1 + rest.length < X.length := by omega
  have gX : X[st.length + 1 + rest.length]? = some (.lst []) := by
    rw [hX, show st ++ Ob.lst (btL w ls.length ss.length (k + 1) d) :: (rest ++ [Ob.lst []]) = (st ++ Ob.lst (btL w ls.length ss.length (k + 1) d) :: rest) ++ [Ob.lst []] by simp, List.getElem?_append_right (by simp; omega), show st.length + 1 + rest.length - (st ++ Ob.lst (btL w ls.length ss.length (k + 1) d) :: rest).length = 0 by simp; omega]
    rfl
  have hXs : X.set (st.length + 1 + rest.length) (.lst []) = X := by
    refine List.ext_getElem? fun j => ?_
    by_cases q : st.length + 1 + rest.length = j
    · subst q; rw [List.getElem?_set_self hh, gX]
    · rw [List.getElem?_set_ne q]
  have hw2 : ∀ o, look (X.set (st.length + 1 + rest.length) o) wb = some (.list (btL w ls.length ss.length k (ls.length + 1))) := fun o => look_ext hw fun i hi => by
    rw [List.getElem?_set_ne (by omega), hX, List.getElem?_append_left hi]
  have lp := forL_at (g := gTp (gCn (gN 9) (gCn (gN 10) gNl))) (b := d_best_from_l1) (fun _ => [some (.d (.tuple ((ls).map .int))), some (.d (.tuple ((ss).map .int))), some (.d (.tuple [.int a, .int b])), some (.d C), some wb, some (.d (.int (((ss.length - 1 - k : Nat) : Int)))), some (.r st.length), some (.d (.int ((d : Int)))), some (.r (st.length + 1 + rest.length)), none, none, none]) (fun i => X.set (st.length + 1 + rest.length) (.lst ((bcand (W.take i) (btab w ls.length ss.length k) d).map Datum.toD))) (W.map encP) fun i x hx => by
    rw [List.getElem?_map] at hx
    obtain ⟨p, hp, rfl⟩ := Option.map_eq_some_iff.mp hx
    have pm := List.mem_of_getElem? hp
    have pb := wb1 p pm
    have cl := bcand_len (W.take i) (btab w ls.length ss.length k) d
    rw [List.length_take] at cl
    refine ⟨_, rfl, ?_⟩
    rw [List.take_add_one, hp, bcand_app]
    exact bf_1 (B := btab w ls.length ss.length k) (fun x r h => by have := btab_len Lg0 Sp0 WK k x r h; omega) pb.1 (btL_at (by omega)) hh hw2 (by omega) (some (.d (.tuple ((ls).map .int)))) (some (.d (.tuple ((ss).map .int)))) (some (.d (.tuple [.int a, .int b]))) (some (.d C)) (some (.d (.int (((ss.length - 1 - k : Nat) : Int))))) (some (.r st.length))
  rw [List.take_zero, show (bcand [] (btab w ls.length ss.length k) d).map (Datum.toD (α := Bt)) = [] from rfl, hXs, List.length_map, List.take_length] at lp
  have gs : (X.set (st.length + 1 + rest.length) (Ob.lst ((bcand W (btab w ls.length ss.length k) d).map Datum.toD)))[st.length + 1 + rest.length]? = some (.lst ((bcand W (btab w ls.length ss.length k) d).map Datum.toD)) := List.getElem?_set_self hh
  have gf : (X.set (st.length + 1 + rest.length) (Ob.lst ((bcand W (btab w ls.length ss.length k) d).map Datum.toD)))[st.length]? = some (.lst (btL w ls.length ss.length (k + 1) d)) := by
    rw [List.getElem?_set_ne (by omega), hX]; exact get_mid st _ _
  have eb : btab w ls.length ss.length (k + 1) d = leastOf (bcand W (btab w ls.length ss.length k) d) := by rw [← hW]; rfl
  have ap := appW_l gf (by rw [btL_len]; omega) (eO (btab w ls.length ss.length (k + 1) d))
  rw [← btL_succ] at ap
  have sM : (X.set (st.length + 1 + rest.length) (Ob.lst ((bcand W (btab w ls.length ss.length k) d).map Datum.toD))).set st.length (.lst (btL w ls.length ss.length (k + 1) (d + 1))) = st ++ .lst (btL w ls.length ss.length (k + 1) (d + 1)) :: (rest ++ [.lst ((bcand W (btab w ls.length ss.length k) d).map Datum.toD)]) := by
    rw [hX, List.set_append_right _ _ (by omega), show st.length + 1 + rest.length - st.length = rest.length + 1 by omega, List.set_cons_succ, List.set_append_right _ _ (by omega), Nat.sub_self, List.set_cons_zero, set_mid]
  rw [sM] at ap
  refine ⟨rest ++ [.lst ((bcand W (btab w ls.length ss.length k) d).map Datum.toD)], ?_⟩
  have nn := ne_nil_b (bcand W (btab w ls.length ss.length k) d)
  have il := isLst_l gf
  have lk1 := look1_l gs
  have lk := looks_l1 gs
  have mn : ∀ z, leastOf (bcand W (btab w ls.length ss.length k) d) = some z → bestF PySem.W.minD [.list ((bcand W (btab w ls.length ss.length k) d).map Datum.toD)] = some (Datum.toD z) := fun z hz => q_least hz
  have hem : (bcand W (btab w ls.length ss.length k) d).isEmpty = true → leastOf (bcand W (btab w ls.length ss.length k) d) = none := fun h => by
    rw [List.isEmpty_iff] at h; rw [h]; rfl
  have hne : (bcand W (btab w ls.length ss.length k) d).isEmpty = false → ∃ z, leastOf (bcand W (btab w ls.length ss.length k) d) = some z := fun h => leastOf_some (by rw [← List.isEmpty_eq_false_iff]; exact h)
  rw [eb] at ap
  have nl : (st ++ Ob.lst (btL w ls.length ss.length (k + 1) d) :: rest).length = st.length + 1 + rest.length := by simp; omega
  have hXX : st ++ Ob.lst (btL w ls.length ss.length (k + 1) d) :: (rest ++ [Ob.lst []]) = X := hX.symm
  rw [hXX] at er
  generalize leastOf (bcand W (btab w ls.length ss.length k) d) = LO at *
  generalize hEM : (bcand W (btab w ls.length ss.length k) d).isEmpty = EM at *
  generalize (bcand W (btab w ls.length ss.length k) d).map (Datum.toD (α := Bt)) = CD at *
  generalize btL w ls.length ss.length (k + 1) (d + 1) = F2 at *
  generalize btL w ls.length ss.length (k + 1) d = F1 at *
  generalize W.map encP = WD at *
  generalize X.set (st.length + 1 + rest.length) (Ob.lst CD) = SF at *
  generalize ((ss.length - 1 - k : Nat) : Int) = AT at *
  generalize hS0 : st ++ Ob.lst F1 :: rest = S0 at *
  have hXX2 : S0 ++ [Ob.lst []] = X := by rw [← hS0, ← hXX]; simp
  unfold d_best_from_l2
  cases EM with
  | true =>
    have hz := hem rfl
    subst hz
    rw [show eO none = PyData.none from rfl] at ap
    simp -implicitDefEqProofs [newW, nl, hXX2, er, srcW_dl, lp, il, lk1, lk, lstW, nn, ap, -forL_cons]
  | false =>
    obtain ⟨z, hz⟩ := hne rfl
    subst hz
    have mz := mn z rfl
    rw [show eO (some z) = Datum.toD z from rfl] at ap
    generalize Datum.toD z = ZD at *
    simp -implicitDefEqProofs [newW, nl, hXX2, er, srcW_dl, lp, il, lk1, lk, lstW, nn, mz, ap, -forL_cons]
end
end

section
variable [Tbl]
open PySem.W (Datum DatumOrd Tup minOf maxOf listLt)
section
variable {ls ss : List Int} {a b : Int} {C : PyData} {w : Nat → Nat → List (Int × Int)} (Lg0 : 1 ≤ ls.length ∧ ls.length ≤ 12) (Sp0 : 1 ≤ ss.length ∧ ss.length ≤ 6) (WK : WayOk ls ss a b C w)
include Lg0 Sp0 WK
theorem bf_3 {k : Nat} (hk : k < ss.length) {wb : Wv} {st : Sto} (hw : look st wb = some (.list (btL w ls.length ss.length k (ls.length + 1)))) :
    ∃ ext, d_best_from_l3 [some (.d (.tuple ((ls).map .int))), some (.d (.tuple ((ss).map .int))), some (.d (.tuple [.int a, .int b])), some (.d C), some wb, some (.d (.int (((ss.length - 1 - k : Nat) : Int)))), none, none, none, none, none, none] st =
      .nx [some (.d (.tuple ((ls).map .int))), some (.d (.tuple ((ss).map .int))), some (.d (.tuple [.int a, .int b])), some (.d C), some (.r st.length), none, none, none, none, none, none, none] (st ++ .lst (btL w ls.length ss.length (k + 1) (ls.length + 1)) :: ext) := by
  obtain ⟨env, st1, e1, rest, rfl, rfl⟩ := forL_goI (g := gN 7) (b := d_best_from_l2) (fun d env st' => ∃ rest, env = [some (.d (.tuple ((ls).map .int))), some (.d (.tuple ((ss).map .int))), some (.d (.tuple [.int a, .int b])), some (.d C), some wb, some (.d (.int (((ss.length - 1 - k : Nat) : Int)))), some (.r st.length), none, none, none, none, none] ∧ st' = st ++ .lst (btL w ls.length ss.length (k + 1) d) :: rest) (rangeD 0 (ls.length + 1)) 0 (fun i x hx env st' hI => by
    rw [Nat.zero_add] at hI ⊢
    obtain ⟨rest, rfl, rfl⟩ := hI
    obtain ⟨hi, rfl⟩ := rangeD_get hx
    rw [Int.zero_add]
    obtain ⟨rest', e⟩ := bf_2 Lg0 Sp0 WK hk (d := i) (by omega) (rest := rest) hw
    exact ⟨_, _, _, rfl, e, rest', rfl, rfl⟩) [some (.d (.tuple ((ls).map .int))), some (.d (.tuple ((ss).map .int))), some (.d (.tuple [.int a, .int b])), some (.d C), some wb, some (.d (.int (((ss.length - 1 - k : Nat) : Int)))), some (.r st.length), none, none, none, none, none] (st ++ [.lst []]) ⟨[], rfl, rfl⟩
  rw [rangeD_len, Nat.zero_add] at e1
  have rg := rg1_ok (i := (ls.length : Int) + 1) (st ++ [.lst []]) (by omega) (by omega)
  rw [show ((ls.length : Int) + 1).toNat = ls.length + 1 by omega] at rg
  have hl : lenF [.tuple (ls.map .int)] = some (.int (ls.length : Int)) := by simp
  refine ⟨rest, ?_⟩
  generalize btL w ls.length ss.length (k + 1) (ls.length + 1) = F at *
  generalize ((ss.length - 1 - k : Nat) : Int) = AT at *
  generalize ls.map PyData.int = LS at *
  generalize ss.map PyData.int = SS at *
  unfold d_best_from_l3
  simp -implicitDefEqProofs [newW, hl, rg, e1, -forL_cons]
theorem bt0 : (List.replicate ls.length PyData.none ++ [PyData.tuple [.int 0, .tuple []]]) = btL w ls.length ss.length 0 (ls.length + 1) := by
  unfold btL
  rw [List.range_succ, List.map_append]
  congr 1
  · symm
    rw [List.eq_replicate_iff]
    refine ⟨by simp, fun x hx => ?_⟩
    obtain ⟨d, hd, rfl⟩ := List.mem_map.mp hx
    have := List.mem_range.mp hd
    show eO (if d = ls.length then some (0, ⟨[]⟩) else none) = .none
    rw [if_neg (by omega)]; rfl
  · show _ = [eO (if ls.length = ls.length then some (0, ⟨[]⟩) else none)]
    rw [if_pos rfl]; rfl
theorem r_best_from (st : Sto) : m_best_from [(.d (.tuple ((ls).map .int))), (.d (.tuple ((ss).map .int))), .d (.tuple [.int a, .int b]), .d C] st = .ok (.d (eO (btab w ls.length ss.length ss.length 0))) st := by
  obtain ⟨env, st1, e1, wb, ext, rfl, rfl, hw⟩ := forL_goI (g := gN 5) (b := d_best_from_l3) (fun k env st' => ∃ wb ext, env = [some (.d (.tuple ((ls).map .int))), some (.d (.tuple ((ss).map .int))), some (.d (.tuple [.int a, .int b])), some (.d C), some wb, none, none, none, none, none, none, none] ∧ st' = st ++ ext ∧ look (st ++ ext) wb = some (.list (btL w ls.length ss.length k (ls.length + 1)))) (downD ((ss.length : Int) - 1) ss.length) 0 (fun i x hx env st' hI => by
    rw [Nat.zero_add] at hI ⊢
    obtain ⟨wb, ext, rfl, rfl, hw⟩ := hI
    have hx2 : i < ss.length ∧ x = .int ((ss.length : Int) - 1 - (i : Nat)) := by
      unfold downD at hx
      rw [List.getElem?_map] at hx
      obtain ⟨j, hj, rfl⟩ := Option.map_eq_some_iff.mp hx
      obtain ⟨h1, rfl⟩ := List.getElem?_eq_some_iff.mp hj
      exact ⟨by simpa using h1, by simp⟩
    obtain ⟨hi, rfl⟩ := hx2
    rw [show (ss.length : Int) - 1 - (i : Nat) = ((ss.length - 1 - i : Nat) : Int) by omega]
    obtain ⟨ext', e⟩ := bf_3 Lg0 Sp0 WK hi hw
    refine ⟨_, _, _, rfl, e, .r (st ++ ext).length, ext ++ .lst (btL w ls.length ss.length (i + 1) (ls.length + 1)) :: ext', rfl, by rw [List.append_assoc], ?_⟩
    rw [← List.append_assoc]
    exact look_l (get_mid (st ++ ext) ext' _)) [some (.d (.tuple ((ls).map .int))), some (.d (.tuple ((ss).map .int))), some (.d (.tuple [.int a, .int b])), some (.d C), some (.d (.list (btL w ls.length ss.length 0 (ls.length + 1)))), none, none, none, none, none, none, none] st ⟨_, [], rfl, by simp, by simp⟩
  have hdl : (downD ((ss.length : Int) - 1) ss.length).length = ss.length := by simp [downD]
  rw [hdl, Nat.zero_add] at hw
  have rgd : rgdW [(.d (.int ((ss.length : Int) - 1))), (.d (.int (-1))), (.d (.int (-1)))] st = .ok ⟨downD ((ss.length : Int) - 1) ss.length, []⟩ st := by
    unfold rgdW
    simp [rg_ok (i := (ss.length : Int) - 1) (by omega) (by omega), rg_ok (i := -1) (by omega) (by omega)]
  have hl1 : lenF [.tuple (ls.map .int)] = some (.int (ls.length : Int)) := by simp
  have hl2 : lenF [.tuple (ss.map .int)] = some (.int (ss.length : Int)) := by simp
  have lk := look1_w hw
  have ix := btL_at (w := w) (n := ls.length) (len := ss.length) (k := ss.length) (m := ls.length + 1) (d := 0) (by omega)
  have c0 : ((0 : Nat) : Int) = 0 := rfl
  rw [c0] at ix
  have b0 := bt0 Lg0 Sp0 WK
  have tk : (st ++ ext).take st.length = st := take_mid _ _
  have fl : (List.replicate ls.length [PyData.none]).flatten = List.replicate ls.length PyData.none := by
    generalize ls.length = n
    induction n with
    | zero => rfl
    | succ n ih => rw [List.replicate_succ, List.replicate_succ, List.flatten_cons, ih]; rfl
  have l1 : (ls.length : Int) ≤ 1000 := by omega
  have l2 : ls.length + 1 ≤ 1000000 := by omega
  have l3 : ls.length ≤ 999999 := by omega
  generalize eO (btab w ls.length ss.length ss.length 0) = R at *
  generalize btL w ls.length ss.length ss.length (ls.length + 1) = B1 at *
  generalize btL w ls.length ss.length 0 (ls.length + 1) = B0 at *
  generalize ls.map PyData.int = LS at *
  generalize ss.map PyData.int = SS at *
  unfold m_best_from d_best_from
  simp -implicitDefEqProofs [lstW, tupW, hl1, l1, l2, l3, fl, b0, hl2, rgd, e1, lk, ix, tk, -forL_cons]
end
end

section
variable [Tbl]
open PySem.W (Datum DatumOrd Tup minOf maxOf listLt)
/-! ## clean partings -/
def wcl (ls ss : List Int) (a b : Int) (i d : Nat) : List (Int × Int) := wol (fcl ls (ss.getD i 0) a b d) (ls.length - d)
theorem wol_mem {f : Nat → Option Int} {m : Nat} {p : Int × Int} : p ∈ wol f m ↔ ∃ k, k < m ∧ f (k + 1) = some p.2 ∧ p.1 = ((k + 1 : Nat) : Int) := by
  unfold wol
  rw [List.mem_filterMap]
  constructor
  · rintro ⟨k, hk, e⟩
    obtain ⟨c, hc, rfl⟩ := Option.map_eq_some_iff.mp e
    exact ⟨k, List.mem_range.mp hk, hc, rfl⟩
  · rintro ⟨k, hk, e1, e2⟩
    exact ⟨k, List.mem_range.mpr hk, by rw [e1]; show some (_, p.2) = some p; rw [← e2]⟩
theorem way_clean {ls ss : List Int} (L : Lg ls) (S : Sps ss) (a b : Int) : WayOk ls ss a b (.bool true) (wcl ls ss a b) := by
  have hs := S.n
  refine ⟨fun at' d st h1 h2 => r_ways_clean L (by rw [List.getD_eq_getElem?_getD, List.getElem?_eq_getElem h1]; rfl) h2 (by omega) st, fun at' d h1 h2 p hp => ?_, fun at' d => ?_⟩
  · obtain ⟨k, hk, _, e⟩ := wol_mem.mp hp
    omega
  · have := wol_len (fcl ls (ss.getD at' 0) a b d) (ls.length - d)
    unfold wcl; omega
theorem least_none' {xs : List Bt} (h : leastOf xs = none) : xs = [] := by
  cases xs with
  | nil => rfl
  | cons x xs => obtain ⟨z, e⟩ := leastOf_some (xs := x :: xs) (by simp); rw [e] at h; cases h
def ptD' : Option Bt → PyData
  | none => .none
  | some z => .tuple (z.2.items.map .int)
section
variable {ls ss : List Int} (L : Lg ls) {a b : Int} (J : 0 ≤ a ∧ a ≤ b ∧ b ≤ 9) (S : Sps ss)
include L J S
theorem r_parting (st : Sto) : m_parting [(.d (.tuple ((ls).map .int))), (.d (.tuple ((ss).map .int))), .d (.tuple [.int a, .int b])] st = .ok (.d (ptD' (btab (wcl ls ss a b) ls.length ss.length ss.length 0))) st := by
  have e1 := fun st => r_need_some L S J st
  have e2 := fun st => r_best_from L.n S.n (way_clean L S a b) st
  generalize btab (wcl ls ss a b) ls.length ss.length ss.length 0 = R at *
  generalize ls.map PyData.int = LS at *
  generalize ss.map PyData.int = SS at *
  unfold m_parting d_parting
  cases R with
  | none =>
    rw [show eO none = PyData.none from rfl] at e2
    simp -implicitDefEqProofs [e1, e2, ptD']
  | some z =>
    rw [show eO (some z) = PyData.tuple [.int z.1, .tuple (z.2.items.map .int)] from rfl] at e2
    simp -implicitDefEqProofs [e1, e2, ptD']
end
end

section
variable [Tbl]
open PySem.W (Datum DatumOrd Tup minOf maxOf listLt)
def okP (ls ss : List Int) (a b : Int) : Nat → Nat → Prop
  | 0, d => d = ls.length
  | k + 1, d => ∃ t, d < t ∧ t ≤ ls.length ∧ fitB (sl ls d t) (ss.getD (ss.length - 1 - k) 0) a b = true ∧ okP ls ss a b k t
theorem btab_ok {ls ss : List Int} {a b : Int} : ∀ (k d : Nat), d ≤ ls.length → ((btab (wcl ls ss a b) ls.length ss.length k d).isSome = true ↔ okP ls ss a b k d)
  | 0, d, hd => by
    show ((if d = ls.length then some ((0, ⟨[]⟩) : Bt) else none).isSome = true) ↔ d = ls.length
    split <;> simp_all
  | k + 1, d, hd => by
    show (leastOf (bcand (wcl ls ss a b (ss.length - 1 - k) d) (btab (wcl ls ss a b) ls.length ss.length k) d)).isSome = true ↔ _
    have h1 : (leastOf (bcand (wcl ls ss a b (ss.length - 1 - k) d) (btab (wcl ls ss a b) ls.length ss.length k) d)).isSome = true ↔ ∃ p ∈ wcl ls ss a b (ss.length - 1 - k) d, (btab (wcl ls ss a b) ls.length ss.length k (d + p.1.toNat)).isSome = true := by
      constructor
      · intro h
        obtain ⟨z, hz⟩ := Option.isSome_iff_exists.mp h
        have hm := leastOf_mem hz
        unfold bcand at hm
        obtain ⟨p, hp, e⟩ := List.mem_filterMap.mp hm
        obtain ⟨r, hr, _⟩ := Option.map_eq_some_iff.mp e
        exact ⟨p, hp, by rw [hr]; rfl⟩
      · rintro ⟨p, hp, h⟩
        obtain ⟨r, hr⟩ := Option.isSome_iff_exists.mp h
        cases e : leastOf (bcand (wcl ls ss a b (ss.length - 1 - k) d) (btab (wcl ls ss a b) ls.length ss.length k) d) with
        | some z => rfl
        | none =>
          have := least_none' e
          have hm : (p.2 + r.1, ⟨p.1 :: r.2.items⟩) ∈ bcand (wcl ls ss a b (ss.length - 1 - k) d) (btab (wcl ls ss a b) ls.length ss.length k) d := List.mem_filterMap.mpr ⟨p, hp, by rw [hr]; rfl⟩
          rw [this] at hm
          cases hm
    rw [h1]
    constructor
    · rintro ⟨p, hp, h⟩
      obtain ⟨j, hj, hf, e⟩ := wol_mem.mp hp
      unfold fcl at hf
      split at hf
      · rename_i ff
        rw [show p.1.toNat = j + 1 by omega] at h
        exact ⟨d + (j + 1), by omega, by omega, ff, (btab_ok k _ (by omega)).mp h⟩
      · cases hf
    · rintro ⟨t, h2, h3, h4, h5⟩
      refine ⟨(((t - d - 1 + 1 : Nat) : Int), 0), wol_mem.mpr ⟨t - d - 1, by omega, ?_, rfl⟩, ?_⟩
      · unfold fcl
        rw [show d + (t - d - 1 + 1) = t by omega, if_pos h4]
      · rw [show d + (((t - d - 1 + 1 : Nat) : Int)).toNat = t by omega]
        exact (btab_ok k t h3).mpr h5
theorem LV_ok {ls ss : List Int} {a b : Int} : ∀ k, k ≤ ss.length → (ls.length ∈ LV ls ss a b ss.length ↔ ∃ d ∈ LV ls ss a b (ss.length - k), okP ls ss a b k d)
  | 0, _ => by
    rw [Nat.sub_zero]
    exact ⟨fun h => ⟨_, h, rfl⟩, fun ⟨d, h, e⟩ => by rw [← show d = ls.length from e]; exact h⟩
  | k + 1, hk => by
    rw [LV_ok k (by omega)]
    have e : ss.length - k = (ss.length - (k + 1)) + 1 := by omega
    have e2 : ss.length - (k + 1) = ss.length - 1 - k := by omega
    rw [e]
    constructor
    · rintro ⟨t, ht, ho⟩
      have hl := lvN_le (show t ∈ lvN ls (ss.getD (ss.length - (k + 1)) 0) a b (LV ls ss a b (ss.length - (k + 1))) from ht)
      have ht : t ∈ lvN ls (ss.getD (ss.length - (k + 1)) 0) a b (LV ls ss a b (ss.length - (k + 1))) := ht
      unfold lvN at ht
      rw [List.mem_filter, List.any_eq_true] at ht
      obtain ⟨_, d, hd, h⟩ := ht
      rw [Bool.and_eq_true, decide_eq_true_eq] at h
      exact ⟨d, hd, t, h.1, hl.2, by rw [← e2]; exact h.2, ho⟩
    · rintro ⟨d, hd, t, h1, h2, h3, h4⟩
      refine ⟨t, ?_, h4⟩
      show t ∈ lvN ls (ss.getD (ss.length - (k + 1)) 0) a b (LV ls ss a b (ss.length - (k + 1)))
      unfold lvN
      rw [List.mem_filter, List.any_eq_true]
      refine ⟨List.mem_map.mpr ⟨t - 1, List.mem_range.mpr (by omega), by omega⟩, d, hd, ?_⟩
      rw [Bool.and_eq_true, decide_eq_true_eq]
      exact ⟨h1, by rw [e2]; exact h3⟩
section
variable {ls ss : List Int} (L : Lg ls) {a b : Int} (J : 0 ≤ a ∧ a ≤ b ∧ b ≤ 9) (S : Sps ss)
include L J S
theorem parting_none : (btab (wcl ls ss a b) ls.length ss.length ss.length 0).isSome = decide (ls.length ∈ LV ls ss a b ss.length) := by
  rw [Bool.eq_iff_iff, decide_eq_true_eq, btab_ok _ _ (Nat.zero_le _), LV_ok ss.length (Nat.le_refl _), Nat.sub_self]
  constructor
  · exact fun h => ⟨0, by simp [LV], h⟩
  · rintro ⟨d, hd, h⟩
    simp [LV] at hd
    rw [← hd]; exact h
end
end

section
variable [Tbl]
/-! cutting stones: the most that c cuts take off, and the greedy cutting -/
/-- the most that c of these values come to -/
def mv : List Int → Nat → Int
  | [], _ => 0
  | _ :: _, 0 => 0
  | x :: L, c + 1 => if mv L (c + 1) < mv L c + x then mv L c + x else mv L (c + 1)
theorem mv_zero : ∀ L : List Int, mv L 0 = 0
  | [] => rfl
  | _ :: _ => rfl
theorem mv_cons (x : Int) (L : List Int) (c : Nat) : mv (x :: L) (c + 1) = if mv L (c + 1) < mv L c + x then mv L c + x else mv L (c + 1) := rfl
theorem mv_nonneg : ∀ {L : List Int}, (∀ x ∈ L, 0 ≤ x) → ∀ c, 0 ≤ mv L c
  | [], _, _ => Int.le_refl _
  | _ :: _, _, 0 => Int.le_refl _
  | x :: L, h, c + 1 => by
    have h1 := mv_nonneg (L := L) (fun y hy => h y (by simp [hy])) c
    have h2 := mv_nonneg (L := L) (fun y hy => h y (by simp [hy])) (c + 1)
    rw [mv_cons]; split <;> omega
theorem mv_mono1 : ∀ {L : List Int}, (∀ x ∈ L, 0 ≤ x) → ∀ c, mv L c ≤ mv L (c + 1)
  | [], _, _ => Int.le_refl _
  | x :: L, h, 0 => mv_nonneg (L := x :: L) h 1
  | x :: L, h, c + 1 => by
    have h1 := mv_mono1 (L := L) (fun y hy => h y (by simp [hy])) c
    have h2 := mv_mono1 (L := L) (fun y hy => h y (by simp [hy])) (c + 1)
    rw [mv_cons, mv_cons]; split <;> split <;> omega
theorem mv_mono {L : List Int} (h : ∀ x ∈ L, 0 ≤ x) {c d : Nat} (q : c ≤ d) : mv L c ≤ mv L d := by
  induction q with
  | refl => exact Int.le_refl _
  | step _ ih => exact Int.le_trans ih (mv_mono1 h _)
theorem mv_tail (x : Int) (L : List Int) (c : Nat) : mv L c ≤ mv (x :: L) c := by
  cases c with
  | zero => rw [mv_zero, mv_zero]; exact Int.le_refl _
  | succ c => rw [mv_cons]; split <;> omega
theorem mv_step {m : Int} (hm : 0 ≤ m) : ∀ {L : List Int}, (∀ x ∈ L, x ≤ m) → ∀ c, mv L (c + 1) ≤ mv L c + m
  | [], _, _ => by show (0 : Int) ≤ 0 + m; omega
  | x :: L, h, 0 => by
    have h1 := mv_step hm (L := L) (fun y hy => h y (by simp [hy])) 0
    have h2 := h x (by simp)
    rw [mv_cons, mv_zero, mv_zero] at *; split <;> omega
  | x :: L, h, c + 1 => by
    have h1 := mv_step hm (L := L) (fun y hy => h y (by simp [hy])) c
    have h2 := mv_step hm (L := L) (fun y hy => h y (by simp [hy])) (c + 1)
    rw [mv_cons, mv_cons]; split <;> split <;> omega
theorem mv_full : ∀ {L : List Int}, (∀ x ∈ L, 0 ≤ x) → ∀ {c : Nat}, L.length ≤ c → mv L c = L.sum
  | [], _, _, _ => rfl
  | x :: L, h, 0, q => by simp at q
  | x :: L, h, c + 1, q => by
    have h1 := mv_full (L := L) (fun y hy => h y (by simp [hy])) (c := c) (by simpa using q)
    have h2 := mv_full (L := L) (fun y hy => h y (by simp [hy])) (c := c + 1) (by simp at q; omega)
    have h3 := h x (by simp)
    rw [mv_cons, h1, h2, List.sum_cons]; split <;> omega
theorem mv_perm {L M : List Int} (p : L.Perm M) : ∀ c, mv L c = mv M c := by
  induction p with
  | nil => intro c; rfl
  | cons x _ ih => intro c; cases c with
    | zero => rfl
    | succ c => rw [mv_cons, mv_cons, ih, ih]
  | swap x y L => intro c; cases c with
    | zero => rfl
    | succ c => cases c with
      | zero => simp only [mv_cons, mv_zero]; (repeat' split) <;> omega
      | succ c => simp only [mv_cons]; repeat' split
                  all_goals omega
  | trans _ _ h1 h2 => intro c; rw [h1, h2]
theorem mv_sorted : ∀ {L : List Int}, L.Pairwise (fun x y => y ≤ x) → (∀ x ∈ L, 0 ≤ x) → ∀ c, mv L c = (L.take c).sum
  | [], _, _, c => by simp; rfl
  | x :: L, _, _, 0 => rfl
  | x :: L, p, h, c + 1 => by
    have q := List.pairwise_cons.mp p
    have h1 := mv_sorted q.2 (fun y hy => h y (by simp [hy])) c
    have h2 := mv_step (h x (by simp)) q.1 c
    rw [mv_cons, List.take_succ_cons, List.sum_cons, ← h1]; split <;> omega
/-- of longs -/
def mo (L : List Int) (c : Nat) : Int := mv (L.map fun l => l - 1) c
theorem mo_zero (L : List Int) : mo L 0 = 0 := mv_zero _
theorem mo_nil (c : Nat) : mo [] c = 0 := rfl
theorem mo_cons (x : Int) (L : List Int) (c : Nat) : mo (x :: L) (c + 1) = if mo L (c + 1) < mo L c + (x - 1) then mo L c + (x - 1) else mo L (c + 1) := rfl
theorem mo_vals {L : List Int} (h : ∀ l ∈ L, 1 ≤ l) : ∀ x ∈ L.map fun l => l - 1, 0 ≤ x := fun x hx => by
  obtain ⟨l, hl, rfl⟩ := List.mem_map.mp hx
  have := h l hl
  omega
theorem mo_nonneg {L : List Int} (h : ∀ l ∈ L, 1 ≤ l) (c : Nat) : 0 ≤ mo L c := mv_nonneg (mo_vals h) c
theorem mo_mono {L : List Int} (h : ∀ l ∈ L, 1 ≤ l) {c d : Nat} (q : c ≤ d) : mo L c ≤ mo L d := mv_mono (mo_vals h) q
theorem mo_tail (x : Int) (L : List Int) (c : Nat) : mo L c ≤ mo (x :: L) c := mv_tail _ _ c
theorem sum_vals (L : List Int) : (L.map fun l => l - 1).sum = L.sum - L.length := by
  induction L with
  | nil => rfl
  | cons x L ih => rw [List.map_cons, List.sum_cons, ih, List.sum_cons, List.length_cons]; omega
theorem mo_full {L : List Int} (h : ∀ l ∈ L, 1 ≤ l) {c : Nat} (q : L.length ≤ c) : mo L c = L.sum - L.length := by
  unfold mo
  rw [mv_full (mo_vals h) (by rw [List.length_map]; exact q), sum_vals]
/-- the greedy cutting: o off, c cuts left -/
def cutG : List Int → Nat → Int → List Int
  | [], _, _ => []
  | x :: L, c, o => if o ≤ mo L c then x :: cutG L c o else (x - (if o - mo L (c - 1) > 1 then o - mo L (c - 1) else 1)) :: cutG L (c - 1) (o - (if o - mo L (c - 1) > 1 then o - mo L (c - 1) else 1))
theorem cutG_cons (x : Int) (L : List Int) (c : Nat) (o : Int) : cutG (x :: L) c o = if o ≤ mo L c then x :: cutG L c o else (x - (if o - mo L (c - 1) > 1 then o - mo L (c - 1) else 1)) :: cutG L (c - 1) (o - (if o - mo L (c - 1) > 1 then o - mo L (c - 1) else 1)) := rfl
/-- a cutting of L -/
def Ct : List Int → List Int → Prop
  | [], [] => True
  | x :: L, s :: S => (1 ≤ s ∧ s ≤ x) ∧ Ct L S
  | _, _ => False
/-- how many are cut -/
def nc : List Int → List Int → Nat
  | x :: L, s :: S => (if x = s then 0 else 1) + nc L S
  | _, _ => 0
theorem Ct.len : ∀ {L S : List Int}, Ct L S → S.length = L.length
  | [], [], _ => rfl
  | _ :: _, _ :: _, h => by rw [List.length_cons, List.length_cons, Ct.len h.2]
  | [], _ :: _, h => h.elim
  | _ :: _, [], h => h.elim
theorem Ct.most : ∀ {L S : List Int}, (∀ l ∈ L, 1 ≤ l) → Ct L S → L.sum - S.sum ≤ mo L (nc L S)
  | [], [], _, _ => by simp [mo_nil]
  | x :: L, s :: S, hl, h => by
    have ih := Ct.most (fun l q => hl l (by simp [q])) h.2
    have h1 := h.1
    rw [List.sum_cons, List.sum_cons]
    unfold nc
    by_cases e : x = s
    · rw [if_pos e]
      have := mo_tail x L (0 + nc L S)
      rw [Nat.zero_add] at *
      omega
    · rw [if_neg e, Nat.add_comm 1, mo_cons]
      split <;> omega
  | [], _ :: _, _, h => h.elim
  | _ :: _, [], _, h => h.elim
theorem cutG_ok : ∀ {L : List Int}, (∀ l ∈ L, 1 ≤ l) → ∀ (c : Nat) (o : Int), 0 ≤ o → o ≤ mo L c → Ct L (cutG L c o) ∧ L.sum - (cutG L c o).sum = o ∧ nc L (cutG L c o) ≤ c
  | [], _, c, o, h0, h1 => by
    rw [mo_nil] at h1
    exact ⟨trivial, by simp [cutG]; omega, Nat.zero_le _⟩
  | x :: L, hl, c, o, h0, h1 => by
    have hl' : ∀ l ∈ L, 1 ≤ l := fun l q => hl l (by simp [q])
    have hx := hl x (by simp)
    unfold cutG
    by_cases q : o ≤ mo L c
    · rw [if_pos q]
      obtain ⟨a1, a2, a3⟩ := cutG_ok hl' c o h0 q
      refine ⟨⟨⟨hx, Int.le_refl _⟩, a1⟩, by rw [List.sum_cons, List.sum_cons]; omega, ?_⟩
      unfold nc
      rw [if_pos rfl]; omega
    · rw [if_neg q]
      cases c with
      | zero => rw [mo_zero] at h1; rw [mo_zero] at q; omega
      | succ c =>
        rw [Nat.add_sub_cancel]
        rw [mo_cons] at h1
        have m1 := mo_mono hl' (Nat.le_add_right c 1)
        have m0 := mo_nonneg hl' c
        have hh : o ≤ mo L c + (x - 1) := by split at h1 <;> omega
        obtain ⟨u, hu⟩ : ∃ u, u = (if o - mo L c > 1 then o - mo L c else 1) := ⟨_, rfl⟩
        rw [← hu]
        have u1 : 1 ≤ u ∧ u ≤ x - 1 ∧ u ≤ o ∧ o - u ≤ mo L c := by rw [hu]; split <;> omega
        obtain ⟨a1, a2, a3⟩ := cutG_ok hl' c (o - u) (by omega) u1.2.2.2
        refine ⟨⟨by omega, a1⟩, by rw [List.sum_cons, List.sum_cons]; omega, ?_⟩
        unfold nc
        split <;> omega
open PySem.W (listLt)
/-- the greedy cutting is the greatest of those with so much off and no more cuts -/
theorem cutG_best : ∀ {L S : List Int}, (∀ l ∈ L, 1 ≤ l) → ∀ {c : Nat} {o : Int}, Ct L S → L.sum - S.sum = o → nc L S ≤ c → S = cutG L c o ∨ listLt ((cutG L c o).map fun x => 0 - x) (S.map fun x => 0 - x) = true
  | [], [], _, _, _, _, _, _ => .inl rfl
  | x :: L, s :: S, hl, c, o, h, e, k => by
    have hl' : ∀ l ∈ L, 1 ≤ l := fun l q => hl l (by simp [q])
    have h1 := h.1
    have am := Ct.most hl' h.2
    rw [List.sum_cons, List.sum_cons] at e
    unfold nc at k
    unfold cutG
    have go : ∀ {y : Int} {Z : List Int}, (y = s → S = Z ∨ listLt (Z.map fun x => 0 - x) (S.map fun x => 0 - x) = true) → s ≤ y → s :: S = y :: Z ∨ listLt ((y :: Z).map fun x => 0 - x) ((s :: S).map fun x => 0 - x) = true := fun {y Z} hz hy => by
      rw [List.map_cons, List.map_cons]
      unfold listLt
      by_cases q : y = s
      · rw [if_pos (by rw [q])]
        rcases hz q with r | r
        · exact .inl (by rw [q, r])
        · exact .inr r
      · rw [if_neg (by omega)]
        exact .inr (decide_eq_true (by omega : 0 - y < 0 - s))
    by_cases q : o ≤ mo L c
    · rw [if_pos q]
      exact go (fun ys => cutG_best hl' h.2 (by omega) (by rw [if_pos ys] at k; omega)) h1.2
    · rw [if_neg q]
      have ne : x ≠ s := fun ys => by
        rw [if_pos ys] at k
        have := mo_mono hl' (show nc L S ≤ c by omega)
        omega
      rw [if_neg ne] at k
      have m1 := mo_mono hl' (show nc L S ≤ c - 1 by omega)
      refine go (fun ys => cutG_best hl' h.2 (by omega) (by omega)) ?_
      split <;> omega
  | [], _ :: _, _, _, _, h, _, _ => h.elim
  | _ :: _, [], _, _, _, h, _, _ => h.elim
/-- the fewest cuts for o -/
def few (L : List Int) (o : Int) : Nat := ((List.range (L.length + 1)).find? fun c => decide (o ≤ mo L c)).getD 0
theorem few_ok {L : List Int} {o : Int} (h : o ≤ mo L L.length) : o ≤ mo L (few L o) ∧ (∀ c, c < few L o → ¬ o ≤ mo L c) ∧ few L o ≤ L.length := by
  unfold few
  cases e : (List.range (L.length + 1)).find? fun c => decide (o ≤ mo L c) with
  | none =>
    have := List.find?_eq_none.mp e L.length (by simp)
    simp at this
    omega
  | some c =>
    rw [Option.getD_some]
    have h1 := List.find?_some e
    have h2 := List.mem_of_find?_eq_some e
    rw [List.mem_range] at h2
    refine ⟨by simpa using h1, fun d hd => ?_, by omega⟩
    have := (List.find?_range_eq_some.mp e).2.2 d hd
    simpa using this
theorem few_eq {L : List Int} {o : Int} {c : Nat} (h : o ≤ mo L c) (h2 : ∀ d, d < c → ¬ o ≤ mo L d) (h3 : c ≤ L.length) : few L o = c := by
  unfold few
  rw [List.find?_range_eq_some.mpr ⟨by simpa using h, by simp; omega, fun d hd => by simpa using h2 d hd⟩]
  rfl
/-- what is to be cut off -/
def offI (L : List Int) (s a : Int) : Int := if ((L.length : Int) - 1) * a - (s - L.sum) > 0 then ((L.length : Int) - 1) * a - (s - L.sum) else 0
/-- the cutting told, if any -/
def cutT (L : List Int) (s a b : Int) : Option (List Int) := if s - L.sum > ((L.length : Int) - 1) * b ∨ mo L L.length < offI L s a then none else some (cutG L (few L (offI L s a)) (offI L s a))
def cutD' : Option (List Int) → PyData
  | none => .none
  | some l => .tuple (l.map .int)
end

section
variable [Tbl]
theorem sortR_pw (ns : List Int) : (sortT true .int ns).Pairwise (fun x y => y ≤ x) := by
  unfold sortT
  have e : PySem.W.dataLe true (fun i : Int => PyData.int i) = fun a b : Int => decide (b ≤ a) := PySem.W.dataGe_int fun i : Int => i
  rw [show PySem.W.dataLe true PyData.int = fun a b : Int => decide (b ≤ a) from e]
  have h := List.pairwise_mergeSort (le := fun a b : Int => decide (b ≤ a)) (fun a b c h1 h2 => by simp at *; omega) (fun a b => by simp; omega) ns
  exact h.imp fun {a b} q => by simpa using q
/-- longs of any number up to a thousand -/
structure Lo (ls : List Int) : Prop where
  n : ls.length ≤ 1000
  b : ∀ l ∈ ls, 1 ≤ l
theorem Lg.lo {ls : List Int} (L : Lg ls) : Lo ls := ⟨by have := L.n; omega, fun l h => (L.b l h).1⟩
theorem Lo.drop {ls : List Int} (L : Lo ls) (k : Nat) : Lo (ls.drop k) := ⟨by rw [List.length_drop]; have := L.n; omega, fun l h => L.b l (List.mem_of_mem_drop h)⟩
theorem r_most_off {ls : List Int} (L : Lo ls) (c : Nat) (st : Sto) : m_most_off [(.d (.tuple ((ls).map .int))), (.d (.int ((c : Int))))] st = .ok (.d (.int (mo ls c))) st := by
  have hn := L.n
  have e1 := lcL_mapE (g := gN 3) (c := eOp2 subD (eVar 3) (eK (.int 1))) (env := [some (.d (.tuple ((ls).map .int))), some (.d (.int ((c : Int)))), none, none]) (st := st) PyData.int (fun l => .int (l - 1)) ls [] fun s hs => ⟨_, rfl, by simp⟩
  rw [List.nil_append, show (ls.map fun l => PyData.int (l - 1)) = (ls.map fun l => l - 1).map .int by rw [List.map_map]; rfl] at e1
  have e2 := srtKF_of (o_srt_ints (b := true) (ls.map fun l => l - 1) (by rw [List.length_map]; omega))
  have pw := sortR_pw (ls.map fun l => l - 1)
  have pm := sortT_perm true .int (ls.map fun l => l - 1)
  have e3 : mo ls c = ((sortT true .int (ls.map fun l => l - 1)).take c).sum := by
    unfold mo
    rw [mv_perm pm.symm c]
    exact mv_sorted pw (fun x hx => mo_vals L.b x (pm.mem_iff.mp hx)) c
  have e4 : cutD ((sortT true .int (ls.map fun l => l - 1)).map PyData.int) none (some (c : Int)) = ((sortT true .int (ls.map fun l => l - 1)).take c).map .int := by rw [cutD_take, List.map_take]
  have e5 := o_sum_l ((sortT true .int (ls.map fun l => l - 1)).take c)
  rw [← e3] at e5
  have h3 : (ls.map PyData.int).length ≤ 1000000 := by rw [List.length_map]; omega
  generalize mo ls c = R at *
  generalize ((sortT true PyData.int (ls.map fun l => l - 1)).take c).map PyData.int = Q1 at *
  generalize (sortT true PyData.int (ls.map fun l => l - 1)).map PyData.int = Q2 at *
  generalize (ls.map fun l => l - 1).map PyData.int = Q3 at *
  generalize ls.map PyData.int = LS at *
  unfold m_most_off d_most_off
  simp -implicitDefEqProofs [srcW_dt, wipeE, h3, e1, e2, e4, e5]
def eI (p : Int × Nat) : PyData := .tuple [.int (p.2 : Int), .int p.1]
theorem enum_int (L : List Int) : enumD (L.map .int) = L.zipIdx.map eI := by
  refine List.ext_getElem? fun i => ?_
  unfold enumD
  rw [List.getElem?_mapIdx, List.getElem?_map, List.getElem?_map, List.getElem?_zipIdx]
  cases L[i]? with
  | none => rfl
  | some l => simp [eI]
theorem cb_turn {ls : List Int} (L : Lo ls) {k : Nat} {M : List Int} {x : Int} (hM : ls.drop k = x :: M) {c : Nat} {o : Int} (h0 : 0 ≤ o) (h1 : o ≤ mo (x :: M) c) {F : List Int} (hF : F.length ≤ 1000) (v1 v2 v3 v4 : Option Wv) (st : Sto) :
    ∃ c' o', (0 ≤ o' ∧ o' ≤ mo M c') ∧ (∃ y, cutG (x :: M) c o = y :: cutG M c' o' ∧ d_cut_by_l1 [some (.d (.tuple ((ls).map .int))), v1, v2, v3, v4, some (.d (.int (o))), some (.d (.int ((c : Int)))), some (.r st.length), some (.d (.int ((k : Int)))), some (.d (.int (x))), none] (st ++ [.lst (F.map .int)]) =
      .nx [some (.d (.tuple ((ls).map .int))), v1, v2, v3, v4, some (.d (.int (o'))), some (.d (.int ((c' : Int)))), some (.r st.length), none, none, none] (st ++ [.lst ((F ++ [y]).map .int)])) := by
  have hM' : ls.drop (k + 1) = M := by rw [← List.drop_drop, hM]; rfl
  have LM : Lo M := by rw [← hM']; exact L.drop _
  have hn := L.n
  have cu : cutD (ls.map PyData.int) (some ((k : Int) + 1)) none = M.map .int := by
    rw [show (k : Int) + 1 = ((k + 1 : Nat) : Int) by omega, cutD_drop, ← List.map_drop, hM']
  have e1 := fun st => r_most_off LM c st
  have g := get_mid st [] (Ob.lst (F.map .int))
  have il := isLst_l g
  have ap := fun y : Int => appW_l g (by rw [List.length_map]; omega) (.int y)
  have fm : ∀ y : Int, F.map PyData.int ++ [.int y] = (F ++ [y]).map .int := fun y => by simp
  rw [cutG_cons]
  by_cases q : o ≤ mo M c
  · refine ⟨c, o, ⟨h0, q⟩, x, by rw [if_pos q], ?_⟩
    have ap := ap x
    rw [set_mid, fm] at ap
    generalize (F ++ [x]).map PyData.int = F2 at *
    generalize F.map PyData.int = F1 at *
    generalize M.map PyData.int = MS at *
    generalize ls.map PyData.int = LS at *
    generalize mo M c = m at *
    unfold d_cut_by_l1
    simp -implicitDefEqProofs [cu, e1, q, il, ap]
  · cases c with
    | zero => rw [mo_zero] at h1; rw [mo_zero] at q; omega
    | succ c =>
      rw [mo_cons] at h1
      have m1 := mo_mono LM.b (Nat.le_add_right c 1)
      have m0 := mo_nonneg LM.b c
      have hh : o ≤ mo M c + (x - 1) := by split at h1 <;> omega
      have e2 := fun st => r_most_off LM c st
      rw [Nat.add_sub_cancel]
      generalize hu : (if o - mo M c > 1 then o - mo M c else 1) = u
      have u1 : 1 ≤ u ∧ u ≤ x - 1 ∧ u ≤ o ∧ o - u ≤ mo M c := by rw [← hu]; split <;> omega
      refine ⟨c, o - u, ⟨by omega, u1.2.2.2⟩, x - u, by rw [if_neg q], ?_⟩
      have ap := ap (x - u)
      rw [set_mid, fm] at ap
      have q' : mo M (c + 1) < o := by omega
      have hc : ((c + 1 : Nat) : Int) - 1 = c := by omega
      generalize ((c + 1 : Nat) : Int) = c1 at *
      generalize (F ++ [x - u]).map PyData.int = F2 at *
      generalize F.map PyData.int = F1 at *
      generalize M.map PyData.int = MS at *
      generalize ls.map PyData.int = LS at *
      generalize mo M (c + 1) = m at *
      generalize mo M c = m2 at *
      unfold d_cut_by_l1
      simp -implicitDefEqProofs [cu, e1, q, q', il, ap, hc, e2, hu]
theorem cb_loop {ls : List Int} (L : Lo ls) (v1 v2 v3 v4 : Option Wv) (st : Sto) : ∀ (M : List Int) (k : Nat) (c : Nat) (o : Int) (F : List Int), ls.drop k = M → 0 ≤ o → o ≤ mo M c → F.length + M.length ≤ 1000 →
    ∃ c' o' : Int, forL (gTp (gCn (gN 8) (gCn (gN 9) gNl))) d_cut_by_l1 [] ((M.zipIdx k).map eI) [some (.d (.tuple ((ls).map .int))), v1, v2, v3, v4, some (.d (.int (o))), some (.d (.int ((c : Int)))), some (.r st.length), none, none, none] (st ++ [.lst (F.map .int)]) =
      .nx [some (.d (.tuple ((ls).map .int))), v1, v2, v3, v4, some (.d (.int (o'))), some (.d (.int (c'))), some (.r st.length), none, none, none] (st ++ [.lst ((F ++ cutG M c o).map .int)])
  | [], k, c, o, F, _, _, _, _ => ⟨c, o, by simp [cutG]⟩
  | x :: M, k, c, o, F, hM, h0, h1, hF => by
    obtain ⟨c', o', ⟨a0, a1⟩, y, e, t⟩ := cb_turn L hM h0 h1 (F := F) (by simp at hF; omega) v1 v2 v3 v4 st
    have hM' : ls.drop (k + 1) = M := by rw [← List.drop_drop, hM]; rfl
    obtain ⟨c2, o2, lp⟩ := cb_loop L v1 v2 v3 v4 st M (k + 1) c' o' (F ++ [y]) hM' a0 a1 (by simp at hF ⊢; omega)
    refine ⟨c2, o2, ?_⟩
    rw [List.zipIdx_cons, List.map_cons, forL_cons, e]
    have gt : gTp (gCn (gN 8) (gCn (gN 9) gNl)) (.d (eI (x, k))) [some (.d (.tuple ((ls).map .int))), v1, v2, v3, v4, some (.d (.int (o))), some (.d (.int ((c : Int)))), some (.r st.length), none, none, none] = some [some (.d (.tuple ((ls).map .int))), v1, v2, v3, v4, some (.d (.int (o))), some (.d (.int ((c : Int)))), some (.r st.length), some (.d (.int ((k : Int)))), some (.d (.int (x))), none] := rfl
    rw [show F ++ y :: cutG M c' o' = (F ++ [y]) ++ cutG M c' o' by simp]
    simp only [gt]
    rw [t]
    exact lp
end

section
variable [Tbl]
theorem whL_up {t : En → Sto → Rs Bool} {b : En → Sto → SR} (E : Nat → En) (st : Sto) (n : Nat) (h1 : ∀ c, c < n → t (E c) st = .ok true st ∧ b (E c) st = .nx (E (c + 1)) st) (h2 : t (E n) st = .ok false st) :
    ∀ (f k : Nat), k ≤ n → n - k < f → whL t b f (E k) st = .nx (E n) st
  | 0, k, _, h => by omega
  | f + 1, k, hk, h => by
    by_cases q : k = n
    · subst q; simp [whL, h2]
    · obtain ⟨e1, e2⟩ := h1 k (by omega)
      have ih := whL_up E st n h1 h2 f (k + 1) (by omega) (by omega)
      simp [whL, e1, e2, ih]
theorem offI_0 (L : List Int) (s a : Int) : 0 ≤ offI L s a := by unfold offI; split <;> omega
theorem r_cut_by {ls : List Int} (L : Lg ls) (s a b : Int) (st : Sto) : m_cut_by [(.d (.tuple ((ls).map .int))), (.d (.int (s))), .d (.tuple [.int a, .int b])] st = .ok (.d (cutD' (cutT ls s a b))) st := by
  have hn := L.n
  have ba : ∀ i, bigOk ((ls.length : Int) - 1) i = true := fun i => big_l (by omega) (by omega)
  have e1 := fun st => r_rest (ls := ls) s st
  have e2 := fun st => r_most_off L.lo ls.length st
  have h0 := offI_0 ls s a
  have ho : offI ls s a = (if ((ls.length : Int) - 1) * a - (s - ls.sum) > 0 then ((ls.length : Int) - 1) * a - (s - ls.sum) else 0) := rfl
  have hl : lenF [.tuple (ls.map .int)] = some (.int (ls.length : Int)) := by simp
  unfold cutT
  by_cases q1 : s - ls.sum > ((ls.length : Int) - 1) * b
  · rw [if_pos (.inl q1)]
    generalize ls.map PyData.int = LS at *
    generalize (ls.length : Int) = N at *
    generalize s - ls.sum = R at *
    have q1' : (N - 1) * b < R := q1
    unfold m_cut_by d_cut_by
    simp -implicitDefEqProofs [hl, e1, ba, q1', cutD']
  · by_cases q2 : mo ls ls.length < offI ls s a
    · rw [if_pos (.inr q2)]
      have q1' : ¬ ((ls.length : Int) - 1) * b < s - ls.sum := q1
      generalize ls.map PyData.int = LS at *
      generalize hN : (ls.length : Int) = N at *
      generalize s - ls.sum = R at *
      generalize hz : (N - 1) * a - R = Z at *
      generalize hz2 : (N - 1) * b = Z2 at *
      generalize offI ls s a = O at *
      generalize mo ls ls.length = m at *
      unfold m_cut_by d_cut_by
      simp -implicitDefEqProofs [hl, e1, ba, q1', hz, hz2, ← ho, e2, q2, cutD']
    · rw [if_neg (fun h => h.elim q1 q2)]
      obtain ⟨f1, f2, f3⟩ := few_ok (L := ls) (o := offI ls s a) (by omega)
      have e3 := fun c st => r_most_off L.lo c st
      have wh := whL_up (t := tBl (eOp2 ltD (eCall m_most_off (aCons (eVar 0) (aCons (eVar 6) aNil))) (eVar 5))) (b := sSet 6 (eOp2 addD (eVar 6) (eK (.int 1)))) (fun c => [some (.d (.tuple ((ls).map .int))), some (.d (.int (s))), some (.d (.tuple [.int a, .int b])), some (.d (.int ((ls.length : Int) - 1))), some (.d (.int (s - ls.sum))), some (.d (.int (offI ls s a))), some (.d (.int ((c : Int)))), none, none, none, none]) st (few ls (offI ls s a)) (fun c hc => by
        have := f2 c hc
        have e3 := e3 c st
        have q : mo ls c < offI ls s a := by omega
        have hc1 : (c : Int) + 1 = ((c + 1 : Nat) : Int) := by omega
        generalize ((c + 1 : Nat) : Int) = c1 at *
        generalize ls.map PyData.int = LS at *
        generalize (ls.length : Int) = N at *
        generalize s - ls.sum = R at *
        generalize offI ls s a = O at *
        generalize mo ls c = m at *
        exact ⟨by simp -implicitDefEqProofs [e3, q], by simp -implicitDefEqProofs [hc1]⟩) (by
        have e3 := e3 (few ls (offI ls s a)) st
        have q : ¬ mo ls (few ls (offI ls s a)) < offI ls s a := by omega
        generalize ls.map PyData.int = LS at *
        generalize (ls.length : Int) = N at *
        generalize s - ls.sum = R at *
        generalize mo ls (few ls (offI ls s a)) = m at *
        generalize ((few ls (offI ls s a) : Nat) : Int) = c1 at *
        generalize offI ls s a = O at *
        simp -implicitDefEqProofs [e3, q]) 100000 0 (by omega) (by omega)
      have wh : sWh 100000 (tBl (eOp2 ltD (eCall m_most_off (aCons (eVar 0) (aCons (eVar 6) aNil))) (eVar 5))) (sSet 6 (eOp2 addD (eVar 6) (eK (.int 1)))) [some (.d (.tuple ((ls).map .int))), some (.d (.int (s))), some (.d (.tuple [.int a, .int b])), some (.d (.int ((ls.length : Int) - 1))), some (.d (.int (s - ls.sum))), some (.d (.int (offI ls s a))), some (.d (.int (0))), none, none, none, none] st = .nx [some (.d (.tuple ((ls).map .int))), some (.d (.int (s))), some (.d (.tuple [.int a, .int b])), some (.d (.int ((ls.length : Int) - 1))), some (.d (.int (s - ls.sum))), some (.d (.int (offI ls s a))), some (.d (.int ((few ls (offI ls s a) : Nat)))), none, none, none, none] st := wh
      obtain ⟨c', o', lp⟩ := cb_loop L.lo (some (.d (.int (s)))) (some (.d (.tuple [.int a, .int b]))) (some (.d (.int ((ls.length : Int) - 1)))) (some (.d (.int (s - ls.sum)))) st ls 0 (few ls (offI ls s a)) (offI ls s a) [] rfl h0 f1 (by simp; omega)
      rw [← enum_int, List.nil_append] at lp
      have g : (st ++ [Ob.lst ((cutG ls (few ls (offI ls s a)) (offI ls s a)).map .int)])[st.length]? = some (.lst ((cutG ls (few ls (offI ls s a)) (offI ls s a)).map .int)) := get_mid st [] _
      have lk := looks_l1 g
      have tk : (st ++ [Ob.lst ((cutG ls (few ls (offI ls s a)) (offI ls s a)).map .int)]).take st.length = st := take_mid _ _
      have q1' : ¬ ((ls.length : Int) - 1) * b < s - ls.sum := q1
      rw [show cutD' (some (cutG ls (few ls (offI ls s a)) (offI ls s a))) = .tuple ((cutG ls (few ls (offI ls s a)) (offI ls s a)).map .int) from rfl]
      have es : ∀ st, enumW [(.d (.tuple ((ls).map .int)))] st = .ok ⟨enumD (ls.map .int), []⟩ st := fun st => rfl
      rw [show List.map PyData.int [] = [] from rfl] at lp
      generalize (cutG ls (few ls (offI ls s a)) (offI ls s a)).map PyData.int = F2 at *
      generalize hf : ((few ls (offI ls s a) : Nat) : Int) = c1 at *
      generalize enumD (ls.map PyData.int) = EN at *
      generalize ls.map PyData.int = LS at *
      generalize hN : (ls.length : Int) = N at *
      generalize s - ls.sum = R at *
      generalize hz : (N - 1) * a - R = Z at *
      generalize hz2 : (N - 1) * b = Z2 at *
      generalize offI ls s a = O at *
      generalize hm : mo ls ls.length = m at *
      generalize hS : st ++ [Ob.lst F2] = SF at *
      unfold m_cut_by d_cut_by
      simp -implicitDefEqProofs [hl, e1, ba, q1', hz, hz2, ← ho, e2, q2, wh, newW, es, lp, lk, tk]
end

section
variable [Tbl]
theorem r_need_all {ls : List Int} (L : Lg ls) {s : Int} (S : 1 ≤ s ∧ s ≤ 80) {a b : Int} (J : 0 ≤ a ∧ a ≤ b ∧ b ≤ 9) (st : Sto) : m_need_all [(.d (.tuple ((ls).map .int))), (.d (.int (s))), .d (.tuple [.int a, .int b])] st = .ok (.d .none) st := by
  have e1 := fun st => r_need_longs L st
  have e2 := fun st => r_need_span S st
  have e3 := fun st => r_need_joints J st
  unfold m_need_all d_need_all
  simp -implicitDefEqProofs [e1, e2, e3]
theorem r_cut_to {ls : List Int} (L : Lg ls) {s : Int} (S : 1 ≤ s ∧ s ≤ 80) {a b : Int} (J : 0 ≤ a ∧ a ≤ b ∧ b ≤ 9) (st : Sto) : m_cut_to [(.d (.tuple ((ls).map .int))), (.d (.int (s))), .d (.tuple [.int a, .int b])] st = .ok (.d (cutD' (cutT ls s a b))) st := by
  have e1 := fun st => r_need_all L S J st
  have e2 := fun st => r_cut_by L s a b st
  unfold m_cut_to d_cut_to
  simp -implicitDefEqProofs [e1, e2]
theorem r_fits {ls : List Int} (L : Lg ls) {s : Int} (S : 1 ≤ s ∧ s ≤ 80) {a b : Int} (J : 0 ≤ a ∧ a ≤ b ∧ b ≤ 9) (st : Sto) : m_fits [(.d (.tuple ((ls).map .int))), (.d (.int (s))), .d (.tuple [.int a, .int b])] st = .ok (.d (.bool (fitB ls s a b))) st := by
  have e1 := fun st => r_need_all L S J st
  have e2 := fun st => r_fit L s a b st
  unfold m_fits d_fits
  simp -implicitDefEqProofs [e1, e2]
end

section
variable [Tbl]
open PySem.W (Datum DatumOrd Tup T3 listLt)
/-! ## the best of all cuttings -/
theorem listLt_irr : ∀ l : List Int, listLt l l = false
  | [] => rfl
  | x :: l => by unfold listLt; rw [if_pos rfl]; exact listLt_irr l
theorem listLt_asym : ∀ {l m : List Int}, listLt l m = true → listLt m l = false
  | [], [], h => by cases h
  | [], _ :: _, _ => rfl
  | _ :: _, [], h => by cases h
  | x :: l, y :: m, h => by
    unfold listLt at h ⊢
    by_cases e : x = y
    · rw [if_pos e] at h; rw [if_pos e.symm]; exact listLt_asym h
    · rw [if_neg e] at h; rw [if_neg (fun z => e z.symm)]
      have : x < y := of_decide_eq_true h
      exact decide_eq_false (by omega)
def keyT (ls s : List Int) : T3 Int Int (List Int) := ⟨(nc ls s : Nat), ls.sum - s.sum, s.map fun x => 0 - x⟩
def klt (p q : T3 Int Int (List Int)) : Bool := DatumOrd.lt p q
theorem klt_eq (p q : T3 Int Int (List Int)) : klt p q = if p.a = q.a then (if p.b = q.b then listLt p.c q.c else decide (p.b < q.b)) else decide (p.a < q.a) := rfl
theorem klt_irr (p : T3 Int Int (List Int)) : klt p p = false := by rw [klt_eq, if_pos rfl, if_pos rfl]; exact listLt_irr _
theorem klt_asym {p q : T3 Int Int (List Int)} (h : klt p q = true) : klt q p = false := by
  rw [klt_eq] at h ⊢
  by_cases e : p.a = q.a
  · rw [if_pos e] at h; rw [if_pos e.symm]
    by_cases e2 : p.b = q.b
    · rw [if_pos e2] at h; rw [if_pos e2.symm]; exact listLt_asym h
    · rw [if_neg e2] at h; rw [if_neg (fun z => e2 z.symm)]
      have := of_decide_eq_true h
      exact decide_eq_false (by omega)
  · rw [if_neg e] at h; rw [if_neg (fun z => e z.symm)]
    have := of_decide_eq_true h
    exact decide_eq_false (by omega)
def bstep (ls : List Int) (sp a b : Int) (r : Option (List Int)) (s : List Int) : Option (List Int) := if fitB s sp a b = true then (match r with | none => some s | some t => if klt (keyT ls s) (keyT ls t) = true then some s else some t) else r
theorem nc_le : ∀ (ls s : List Int), nc ls s ≤ ls.length
  | [], _ => Nat.zero_le _
  | _ :: _, [] => Nat.zero_le _
  | x :: ls, y :: s => by
    have := nc_le ls s
    unfold nc
    rw [List.length_cons]
    split <;> omega
theorem Ct.sum : ∀ {L S : List Int}, Ct L S → S.sum ≤ L.sum
  | [], [], _ => Int.le_refl _
  | x :: L, s :: S, h => by
    have := Ct.sum h.2
    have := h.1
    rw [List.sum_cons, List.sum_cons]; omega
  | [], _ :: _, h => h.elim
  | _ :: _, [], h => h.elim
section
variable {ls : List Int} (L : Lo ls) (sp a b : Int) (J : 0 ≤ a ∧ a ≤ b)
include L J
theorem fit_off {s : List Int} (h : Ct ls s) (hf : fitB s sp a b = true) : offI ls sp a ≤ ls.sum - s.sum ∧ sp - ls.sum ≤ ((ls.length : Int) - 1) * b := by
  unfold fitB at hf
  rw [Bool.and_eq_true, decide_eq_true_iff, decide_eq_true_iff, h.len] at hf
  have := h.sum
  unfold offI
  split <;> omega
theorem cutT_none (h : cutT ls sp a b = none) {s : List Int} (hs : Ct ls s) : fitB s sp a b = false := by
  cases q : fitB s sp a b with
  | false => rfl
  | true =>
    obtain ⟨h1, h2⟩ := fit_off L sp a b J hs q
    unfold cutT at h
    split at h
    · rename_i h3
      have h4 := Ct.most L.b hs
      have h5 := mo_mono L.b (nc_le ls s)
      rcases h3 with h3 | h3 <;> omega
    · cases h
theorem cutT_some {g : List Int} (hn : 1 ≤ ls.length) (h : cutT ls sp a b = some g) : Ct ls g ∧ fitB g sp a b = true ∧ ∀ s, Ct ls s → fitB s sp a b = true → s = g ∨ klt (keyT ls g) (keyT ls s) = true := by
  unfold cutT at h
  split at h
  · cases h
  · rename_i h3
    have h0 := offI_0 ls sp a
    obtain ⟨f1, f2, f3⟩ := few_ok (L := ls) (o := offI ls sp a) (by omega)
    obtain ⟨g1, g2, g3⟩ := cutG_ok L.b (few ls (offI ls sp a)) (offI ls sp a) h0 f1
    have h := Option.some.inj h
    rw [h] at g1 g2 g3
    have gm := Ct.most L.b g1
    have ge : few ls (offI ls sp a) ≤ nc ls g := by
      rcases Nat.lt_or_ge (nc ls g) (few ls (offI ls sp a)) with q | q
      · exact absurd (by omega) (f2 _ q)
      · exact q
    refine ⟨g1, ?_, fun s hs hf => ?_⟩
    · have hz : ((ls.length : Int) - 1) * a ≤ ((ls.length : Int) - 1) * b := Int.mul_le_mul_of_nonneg_left J.2 (by omega)
      have ho : offI ls sp a = (if ((ls.length : Int) - 1) * a - (sp - ls.sum) > 0 then ((ls.length : Int) - 1) * a - (sp - ls.sum) else 0) := rfl
      unfold fitB
      rw [Bool.and_eq_true, decide_eq_true_iff, decide_eq_true_iff, g1.len]
      generalize ((ls.length : Int) - 1) * a = A at *
      generalize ((ls.length : Int) - 1) * b = B at *
      split at ho <;> omega
    · obtain ⟨h1, _⟩ := fit_off L sp a b J hs hf
      have hm := Ct.most L.b hs
      have hc : few ls (offI ls sp a) ≤ nc ls s := by
        rcases Nat.lt_or_ge (nc ls s) (few ls (offI ls sp a)) with q | q
        · exact absurd (by omega) (f2 _ q)
        · exact q
      rw [klt_eq]
      unfold keyT
      dsimp only
      by_cases e1 : nc ls g = nc ls s
      · rw [if_pos (by rw [e1])]
        by_cases e2 : ls.sum - g.sum = ls.sum - s.sum
        · rw [if_pos e2]
          have := cutG_best L.b hs (c := few ls (offI ls sp a)) (o := offI ls sp a) (by omega) (by omega)
          rw [h] at this
          exact this
        · rw [if_neg e2]
          exact .inr (decide_eq_true (by omega))
      · rw [if_neg (by omega)]
        exact .inr (decide_eq_true (by omega))
end
theorem fold_none {ls : List Int} {sp a b : Int} : ∀ (A : List (List Int)) (r : Option (List Int)), (∀ s ∈ A, fitB s sp a b = false) → A.foldl (bstep ls sp a b) r = r
  | [], _, _ => rfl
  | s :: A, r, h => by
    rw [List.foldl_cons]
    have : bstep ls sp a b r s = r := by unfold bstep; rw [h s (by simp)]; rfl
    rw [this]
    exact fold_none A r fun t ht => h t (by simp [ht])
theorem fold_stay {ls g : List Int} {sp a b : Int} : ∀ (A : List (List Int)), (∀ s ∈ A, fitB s sp a b = true → s = g ∨ klt (keyT ls g) (keyT ls s) = true) → A.foldl (bstep ls sp a b) (some g) = some g
  | [], _ => rfl
  | s :: A, h => by
    rw [List.foldl_cons]
    have : bstep ls sp a b (some g) s = some g := by
      unfold bstep
      cases q : fitB s sp a b with
      | false => rfl
      | true =>
        rw [if_pos rfl]
        rcases h s (by simp) q with rfl | e
        · dsimp only; rw [klt_irr]; rfl
        · dsimp only; rw [klt_asym e]; rfl
    rw [this]
    exact fold_stay A fun t ht => h t (by simp [ht])
theorem fold_best {ls g : List Int} {sp a b : Int} (hg : fitB g sp a b = true) : ∀ (A : List (List Int)) (r : Option (List Int)), (r = none ∨ ∃ t, r = some t ∧ (t = g ∨ klt (keyT ls g) (keyT ls t) = true)) → g ∈ A → (∀ s ∈ A, fitB s sp a b = true → s = g ∨ klt (keyT ls g) (keyT ls s) = true) → A.foldl (bstep ls sp a b) r = some g
  | [], _, _, hm, _ => by cases hm
  | s :: A, r, hr, hm, h => by
    rw [List.foldl_cons]
    by_cases e : s = g
    · subst e
      have : bstep ls sp a b r s = some s := by
        unfold bstep
        rw [if_pos hg]
        rcases hr with rfl | ⟨t, rfl, rfl | ht⟩
        · rfl
        · dsimp only; rw [klt_irr]; rfl
        · dsimp only; rw [if_pos ht]
      rw [this]
      exact fold_stay A fun t ht => h t (by simp [ht])
    · refine fold_best hg A _ ?_ (by rcases List.mem_cons.mp hm with q | q; exact absurd q.symm e; exact q) fun t ht => h t (by simp [ht])
      unfold bstep
      cases q : fitB s sp a b with
      | false => exact hr
      | true =>
        rw [if_pos rfl]
        have hs := h s (by simp) q
        rcases hr with rfl | ⟨t, rfl, ht⟩
        · exact .inr ⟨s, rfl, hs⟩
        · dsimp only
          split
          · exact .inr ⟨s, rfl, hs⟩
          · exact .inr ⟨t, rfl, ht⟩
/-! ## all cuttings -/
def exA (x : Int) (t : List Int) : List (List Int) := (List.range x.toNat).map fun (i : Nat) => t ++ [((i + 1 : Nat) : Int)]
def stA (F : List (List Int)) (x : Int) : List (List Int) := F.flatMap (exA x)
def allA (ls : List Int) : List (List Int) := ls.foldl stA [[]]
theorem exA_mem {x : Int} {t s : List Int} : s ∈ exA x t ↔ ∃ y, 1 ≤ y ∧ y ≤ x ∧ s = t ++ [y] := by
  unfold exA
  rw [List.mem_map]
  constructor
  · rintro ⟨i, hi, rfl⟩
    rw [List.mem_range] at hi
    exact ⟨_, by omega, by omega, rfl⟩
  · rintro ⟨y, h1, h2, rfl⟩
    exact ⟨(y - 1).toNat, by rw [List.mem_range]; omega, by rw [show (((y - 1).toNat + 1 : Nat) : Int) = y by omega]⟩
theorem fold_mem : ∀ (ls : List Int) (F : List (List Int)) (s : List Int), s ∈ ls.foldl stA F ↔ ∃ t ∈ F, ∃ u, Ct ls u ∧ s = t ++ u
  | [], F, s => by
    constructor
    · intro h; exact ⟨s, h, [], trivial, by simp⟩
    · rintro ⟨t, h, u, hu, rfl⟩
      cases u with
      | nil => simpa using h
      | cons y u => exact hu.elim
  | x :: ls, F, s => by
    rw [List.foldl_cons, fold_mem ls (stA F x) s]
    unfold stA
    constructor
    · rintro ⟨t, h, u, hu, rfl⟩
      obtain ⟨t0, h0, h1⟩ := List.mem_flatMap.mp h
      obtain ⟨y, y1, y2, rfl⟩ := exA_mem.mp h1
      exact ⟨t0, h0, y :: u, ⟨⟨y1, y2⟩, hu⟩, by simp⟩
    · rintro ⟨t, h, u, hu, rfl⟩
      cases u with
      | nil => exact hu.elim
      | cons y u => exact ⟨t ++ [y], List.mem_flatMap.mpr ⟨t, h, exA_mem.mpr ⟨y, hu.1.1, hu.1.2, rfl⟩⟩, u, hu.2, by simp⟩
theorem all_mem {ls s : List Int} : s ∈ allA ls ↔ Ct ls s := by
  unfold allA
  rw [fold_mem]
  constructor
  · rintro ⟨t, h, u, hu, rfl⟩
    rw [List.mem_singleton.mp h]
    exact hu
  · intro h; exact ⟨[], by simp, s, h, rfl⟩
theorem best_is {ls : List Int} (L : Lo ls) (hn : 1 ≤ ls.length) (sp a b : Int) (J : 0 ≤ a ∧ a ≤ b) : (allA ls).foldl (bstep ls sp a b) none = cutT ls sp a b := by
  cases h : cutT ls sp a b with
  | none => exact fold_none _ _ fun s hs => cutT_none L sp a b J h (all_mem.mp hs)
  | some g =>
    obtain ⟨h1, h2, h3⟩ := cutT_some L sp a b J hn h
    exact fold_best h2 _ _ (.inl rfl) (all_mem.mpr h1) fun s hs hf => h3 s (all_mem.mp hs) hf
theorem stA_len {F : List (List Int)} {x : Int} {n : Nat} (hF : F.length ≤ n) (hx : x ≤ 5) : (stA F x).length ≤ n * 5 := by
  have : ∀ F : List (List Int), (stA F x).length ≤ F.length * 5 := fun F => by
    induction F with
    | nil => exact Nat.le_refl _
    | cons t F ih =>
      unfold stA at ih ⊢
      rw [List.flatMap_cons, List.length_append, List.length_cons]
      have : (exA x t).length ≤ 5 := by unfold exA; simp; omega
      omega
  exact Nat.le_trans (this F) (Nat.mul_le_mul_right 5 hF)
theorem nc_zip : ∀ ls s : List Int, ((ls.zip s).filter fun p => !(p.1 == p.2)).length = nc ls s
  | [], _ => rfl
  | _ :: _, [] => rfl
  | x :: ls, y :: s => by
    rw [List.zip_cons_cons, List.filter_cons]
    unfold nc
    have ih := nc_zip ls s
    by_cases e : x = y
    · subst e; simp [ih]
    · simp [e, ih]; omega
theorem zip_enc (ls s : List Int) : List.zipWith pairD (ls.map .int) (s.map .int) = (ls.zip s).map encP := by
  rw [List.zipWith_map, List.zip_eq_zipWith, List.map_zipWith]; rfl
theorem Ct.lg {ls s : List Int} (L : Lg ls) (h : Ct ls s) : Lg s := by
  refine ⟨by rw [h.len]; exact L.n, ?_⟩
  have : ∀ {ls s : List Int}, (∀ l ∈ ls, 1 ≤ l ∧ l ≤ 20) → Ct ls s → ∀ y ∈ s, 1 ≤ y ∧ y ≤ 20 := by
    intro ls
    induction ls with
    | nil => intro s _ h y hy; cases s with
      | nil => cases hy
      | cons _ _ => exact h.elim
    | cons x ls ih => intro s hb h y hy; cases s with
      | nil => exact h.elim
      | cons z s =>
        have hx := hb x (by simp)
        have h1 := h.1
        rcases List.mem_cons.mp hy with rfl | hy
        · omega
        · exact ih (fun l hl => hb l (by simp [hl])) h.2 y hy
  exact this L.b h
end

section
variable [Tbl]
open PySem.W (Datum DatumOrd Tup minOf maxOf listLt)
/-! ## the order of the bests -/
theorem listLt_tot : ∀ l m : List Int, l = m ∨ listLt l m = true ∨ listLt m l = true
  | [], [] => .inl rfl
  | [], _ :: _ => .inr (.inl rfl)
  | _ :: _, [] => .inr (.inr rfl)
  | x :: l, y :: m => by
    by_cases e : x = y
    · subst e
      rcases listLt_tot l m with h | h | h
      · exact .inl (by rw [h])
      · exact .inr (.inl (by unfold listLt; rw [if_pos rfl]; exact h))
      · exact .inr (.inr (by unfold listLt; rw [if_pos rfl]; exact h))
    · rcases Int.lt_or_gt_of_ne e with h | h
      · exact .inr (.inl (by unfold listLt; rw [if_neg e]; exact decide_eq_true h))
      · exact .inr (.inr (by unfold listLt; rw [if_neg (fun z => e z.symm)]; exact decide_eq_true h))
theorem listLt_trans : ∀ {l m n : List Int}, listLt l m = true → listLt m n = true → listLt l n = true
  | [], [], _, h, _ => by cases h
  | _ :: _, [], _, h, _ => by cases h
  | _, _ :: _, [], _, h => by cases h
  | [], _ :: _, _ :: _, _, _ => rfl
  | x :: l, y :: m, z :: n, h, k => by
    unfold listLt at h k ⊢
    by_cases e : x = y
    · subst e
      rw [if_pos rfl] at h
      by_cases e2 : x = z
      · rw [if_pos e2] at k ⊢; exact listLt_trans h k
      · rw [if_neg e2] at k ⊢; exact k
    · rw [if_neg e] at h
      have h1 : x < y := of_decide_eq_true h
      by_cases e2 : y = z
      · subst e2; rw [if_neg e]; exact h
      · rw [if_neg e2] at k
        have h2 : y < z := of_decide_eq_true k
        rw [if_neg (by omega)]
        exact decide_eq_true (by omega : x < z)
def blt (x y : Bt) : Bool := DatumOrd.lt x y
theorem blt_eq (x y : Bt) : blt x y = if x.1 = y.1 then listLt x.2.items y.2.items else decide (x.1 < y.1) := rfl
theorem bt_ext {x y : Bt} (h1 : x.1 = y.1) (h2 : x.2.items = y.2.items) : x = y := by
  obtain ⟨a, ⟨l⟩⟩ := x
  obtain ⟨b, ⟨m⟩⟩ := y
  cases h1; cases h2; rfl
theorem blt_tot (x y : Bt) : x = y ∨ blt x y = true ∨ blt y x = true := by
  rw [blt_eq, blt_eq]
  by_cases e : x.1 = y.1
  · rw [if_pos e, if_pos e.symm]
    rcases listLt_tot x.2.items y.2.items with h | h
    · exact .inl (bt_ext e h)
    · exact .inr h
  · rw [if_neg e, if_neg (fun z => e z.symm)]
    rcases Int.lt_or_gt_of_ne e with h | h
    · exact .inr (.inl (decide_eq_true h))
    · exact .inr (.inr (decide_eq_true h))
theorem blt_asym {x y : Bt} (h : blt x y = true) : blt y x = false := by
  rw [blt_eq] at h ⊢
  by_cases e : x.1 = y.1
  · rw [if_pos e] at h; rw [if_pos e.symm]; exact listLt_asym h
  · rw [if_neg e] at h; rw [if_neg (fun z => e z.symm)]
    have := of_decide_eq_true h
    exact decide_eq_false (by omega)
theorem blt_trans {x y z : Bt} (h : blt x y = true) (k : blt y z = true) : blt x z = true := by
  rw [blt_eq] at h k ⊢
  by_cases e : x.1 = y.1
  · rw [if_pos e] at h
    by_cases e2 : y.1 = z.1
    · rw [if_pos e2] at k; rw [if_pos (e.trans e2)]; exact listLt_trans h k
    · rw [if_neg e2] at k; rw [if_neg (by omega)]
      have := of_decide_eq_true k
      exact decide_eq_true (by omega)
  · rw [if_neg e] at h
    have h1 := of_decide_eq_true h
    by_cases e2 : y.1 = z.1
    · rw [if_neg (by omega)]; exact decide_eq_true (by omega)
    · rw [if_neg e2] at k
      have := of_decide_eq_true k
      rw [if_neg (by omega)]; exact decide_eq_true (by omega)
/-- at most -/
def ble (x y : Bt) : Prop := x = y ∨ blt x y = true
theorem ble_trans {x y z : Bt} (h : ble x y) (k : ble y z) : ble x z := by
  rcases h with rfl | h
  · exact k
  · rcases k with rfl | k
    · exact .inr h
    · exact .inr (blt_trans h k)
theorem ble_asym {x y : Bt} (h : ble x y) (k : ble y x) : x = y := by
  rcases h with h | h
  · exact h
  · rcases k with k | k
    · exact k.symm
    · rw [blt_asym h] at k; cases k
/-- the least of those with P -/
def IsL (P : Bt → Prop) : Option Bt → Prop
  | none => ∀ x, ¬ P x
  | some z => P z ∧ ∀ x, P x → ble z x
theorem IsL.uniq {P : Bt → Prop} {o q : Option Bt} (h : IsL P o) (k : IsL P q) : o = q := by
  cases o with
  | none => cases q with
    | none => rfl
    | some z => exact absurd k.1 (h z)
  | some y => cases q with
    | none => exact absurd h.1 (k y)
    | some z => rw [ble_asym (h.2 z k.1) (k.2 y h.1)]
theorem IsL.congr {P Q : Bt → Prop} (e : ∀ x, P x ↔ Q x) {o : Option Bt} (h : IsL P o) : IsL Q o := by
  cases o with
  | none => exact fun x hx => h x ((e x).mpr hx)
  | some z => exact ⟨(e z).mp h.1, fun x hx => h.2 x ((e x).mpr hx)⟩
theorem minOf_le : ∀ (xs : List Bt) (x : Bt), ∀ y ∈ x :: xs, ble (minOf x xs) y
  | [], x, y, h => by rw [List.mem_singleton.mp h]; exact .inl rfl
  | z :: xs, x, y, h => by
    show ble (minOf (if DatumOrd.lt z x then z else x) xs) y
    have ih := minOf_le xs (if DatumOrd.lt z x then z else x)
    have h0 := ih _ (List.mem_cons_self ..)
    have hx : ble (if DatumOrd.lt z x = true then z else x) x := by
      split
      · rename_i h; exact .inr h
      · exact .inl rfl
    have hz : ble (if DatumOrd.lt z x = true then z else x) z := by
      split
      · exact .inl rfl
      · rename_i h
        rcases blt_tot x z with e | e | e
        · exact .inl e
        · exact .inr e
        · exact absurd e h
    rcases List.mem_cons.mp h with rfl | h
    · exact ble_trans h0 hx
    · rcases List.mem_cons.mp h with rfl | h
      · exact ble_trans h0 hz
      · exact ih y (List.mem_cons_of_mem _ h)
theorem least_is (xs : List Bt) : IsL (· ∈ xs) (leastOf xs) := by
  cases xs with
  | nil => exact fun x h => nomatch h
  | cons x xs => exact ⟨minOf_mem xs x, minOf_le xs x⟩
/-! ## ways through the spans -/
def PP (w : Nat → Nat → List (Int × Int)) (n len : Nat) : Nat → Nat → Int → List Int → Prop
  | 0, d, c, l => d = n ∧ c = 0 ∧ l = []
  | k + 1, d, c, l => ∃ p ∈ w (len - 1 - k) d, ∃ c' l', PP w n len k (d + p.1.toNat) c' l' ∧ c = p.2 + c' ∧ l = p.1 :: l'
theorem btab_is (w : Nat → Nat → List (Int × Int)) (n len : Nat) : ∀ k d, IsL (fun x => PP w n len k d x.1 x.2.items) (btab w n len k d)
  | 0, d => by
    show IsL _ (if d = n then some ((0, ⟨[]⟩) : Bt) else none)
    split
    · rename_i h
      exact ⟨⟨h, rfl, rfl⟩, fun x hx => .inl (bt_ext hx.2.1.symm hx.2.2.symm)⟩
    · rename_i h
      exact fun x hx => h hx.1
  | k + 1, d => by
    show IsL _ (leastOf (bcand (w (len - 1 - k) d) (btab w n len k) d))
    have hl := least_is (bcand (w (len - 1 - k) d) (btab w n len k) d)
    have mem : ∀ z, z ∈ bcand (w (len - 1 - k) d) (btab w n len k) d ↔ ∃ p ∈ w (len - 1 - k) d, ∃ r, btab w n len k (d + p.1.toNat) = some r ∧ z = ((p.2 + r.1, ⟨p.1 :: r.2.items⟩) : Bt) := fun z => by
      unfold bcand
      rw [List.mem_filterMap]
      constructor
      · rintro ⟨p, hp, e⟩
        obtain ⟨r, hr, rfl⟩ := Option.map_eq_some_iff.mp e
        exact ⟨p, hp, r, hr, rfl⟩
      · rintro ⟨p, hp, r, hr, rfl⟩
        exact ⟨p, hp, by rw [hr]; rfl⟩
    have up : ∀ x : Bt, PP w n len (k + 1) d x.1 x.2.items → ∃ z ∈ bcand (w (len - 1 - k) d) (btab w n len k) d, ble z x := fun x hx => by
      obtain ⟨p, hp, c', l', h1, h2, h3⟩ := hx
      have ih := btab_is w n len k (d + p.1.toNat)
      cases hb : btab w n len k (d + p.1.toNat) with
      | none => rw [hb] at ih; exact absurd h1 (ih (c', ⟨l'⟩))
      | some r =>
        rw [hb] at ih
        refine ⟨_, (mem _).mpr ⟨p, hp, r, hb, rfl⟩, ?_⟩
        rcases ih.2 (c', ⟨l'⟩) h1 with e | e
        · exact .inl (bt_ext (by rw [h2, e]) (by rw [h3, e]))
        · refine .inr ?_
          rw [blt_eq] at e ⊢
          rw [h2, h3]
          dsimp only at e ⊢
          by_cases q : r.1 = c'
          · rw [if_pos q] at e
            rw [if_pos (by rw [q])]
            unfold listLt
            rw [if_pos rfl]; exact e
          · rw [if_neg q] at e
            have := of_decide_eq_true e
            rw [if_neg (by omega)]
            exact decide_eq_true (by omega)
    cases hz : leastOf (bcand (w (len - 1 - k) d) (btab w n len k) d) with
    | none =>
      rw [hz] at hl
      intro x hx
      obtain ⟨z, h1, _⟩ := up x hx
      exact hl z h1
    | some z =>
      rw [hz] at hl
      refine ⟨?_, fun x hx => ?_⟩
      · obtain ⟨p, hp, r, hr, e⟩ := (mem z).mp hl.1
        have ih := btab_is w n len k (d + p.1.toNat)
        rw [hr] at ih
        exact ⟨p, hp, r.1, r.2.items, ih.1, by rw [e], by rw [e]⟩
      · obtain ⟨y, h1, h2⟩ := up x hx
        exact ble_trans (hl.2 y h1) h2
/-! ## all partings, rising -/
def comps : Nat → Nat → List (List Int)
  | _, 0 => []
  | n, 1 => if 0 < n then [[(n : Int)]] else []
  | n, k + 2 => (List.range (n - 1)).flatMap fun i => (comps (n - (i + 1)) (k + 1)).map fun l => ((i + 1 : Nat) : Int) :: l
theorem comps_1 (n : Nat) : comps n 1 = if 0 < n then [[(n : Int)]] else [] := by unfold comps; rfl
theorem comps_succ (n k : Nat) : comps n (k + 2) = (List.range (n - 1)).flatMap fun i => (comps (n - (i + 1)) (k + 1)).map fun l => ((i + 1 : Nat) : Int) :: l := by rw [comps]
theorem comps_sorted : ∀ (k n : Nat), (comps n (k + 1)).Pairwise (fun a b => listLt a b = true)
  | 0, n => by rw [comps_1]; split <;> simp
  | k + 1, n => by
    rw [comps_succ, List.pairwise_flatMap]
    refine ⟨fun i _ => ?_, ?_⟩
    · rw [List.pairwise_map]
      exact (comps_sorted k (n - (i + 1))).imp fun {a b} h => by unfold listLt; rw [if_pos rfl]; exact h
    · refine (List.pairwise_lt_range (n := n - 1)).imp fun {i j} h x hx y hy => ?_
      obtain ⟨a, _, rfl⟩ := List.mem_map.mp hx
      obtain ⟨b, _, rfl⟩ := List.mem_map.mp hy
      unfold listLt
      rw [if_neg (by omega)]
      exact decide_eq_true (by omega : ((i + 1 : Nat) : Int) < ((j + 1 : Nat) : Int))
/-- what a parting costs -/
def cst (f : Nat → Nat → Nat → Option Int) : Nat → Nat → List Int → Option Int
  | _, _, [] => some 0
  | at', d, m :: l => match f at' d m.toNat, cst f (at' + 1) (d + m.toNat) l with
    | some x, some y => some (x + y)
    | _, _ => none
/-- the ways of a cost -/
def wys (f : Nat → Nat → Nat → Option Int) (n at' d : Nat) : List (Int × Int) := wol (f at' d) (n - d)
theorem comps_PP (f : Nat → Nat → Nat → Option Int) (n len : Nat) : ∀ (k d : Nat) (c : Int) (l : List Int), d ≤ n → k + 1 ≤ len → (PP (wys f n) n len (k + 1) d c l ↔ l ∈ comps (n - d) (k + 1) ∧ cst f (len - 1 - k) d l = some c)
  | 0, d, c, l, hd, hk => by
    rw [comps_1]
    constructor
    · rintro ⟨p, hp, c', l', ⟨h1, rfl, rfl⟩, rfl, rfl⟩
      obtain ⟨j, hj, hf, e⟩ := wol_mem.mp hp
      rw [if_pos (by omega)]
      refine ⟨List.mem_singleton.mpr (by rw [e]; congr 1; omega), ?_⟩
      unfold cst cst
      rw [show p.1.toNat = j + 1 by omega, hf]
    · rintro ⟨hm, hc⟩
      split at hm
      · rename_i hn
        rw [List.mem_singleton.mp hm] at hc ⊢
        unfold cst cst at hc
        rw [Int.toNat_natCast] at hc
        cases hf : f (len - 1 - 0) d (n - d) with
        | none => rw [hf] at hc; cases hc
        | some x =>
          rw [hf] at hc
          have hc := Option.some.inj hc
          refine ⟨(((n - d - 1 + 1 : Nat) : Int), x), wol_mem.mpr ⟨n - d - 1, by omega, by rw [show n - d - 1 + 1 = n - d by omega]; exact hf, rfl⟩, 0, [], ⟨?_, rfl, rfl⟩, ?_, ?_⟩
          · show d + (((n - d - 1 + 1 : Nat) : Int)).toNat = n
            omega
          · exact hc.symm
          · show [((n - d : Nat) : Int)] = [((n - d - 1 + 1 : Nat) : Int)]
            rw [show n - d - 1 + 1 = n - d by omega]
      · cases hm
  | k + 1, d, c, l, hd, hk => by
    rw [comps_succ]
    constructor
    · rintro ⟨p, hp, c', l', h, rfl, rfl⟩
      obtain ⟨j, hj, hf, e⟩ := wol_mem.mp hp
      have et : p.1.toNat = j + 1 := by omega
      rw [et] at h
      obtain ⟨h1, h2⟩ := (comps_PP f n len k (d + (j + 1)) c' l' (by omega) (by omega)).mp h
      rw [show n - (d + (j + 1)) = n - d - (j + 1) by omega] at h1
      refine ⟨List.mem_flatMap.mpr ⟨j, ?_, List.mem_map.mpr ⟨l', h1, by rw [e]⟩⟩, ?_⟩
      · rw [List.mem_range]
        rcases Nat.lt_or_ge j (n - d - 1) with q | q
        · exact q
        · rw [show n - d - (j + 1) = 0 by omega] at h1
          cases k with
          | zero => rw [comps_1] at h1; simp at h1
          | succ k => rw [comps_succ] at h1; simp at h1
      · unfold cst
        rw [et, hf, show len - 1 - (k + 1) + 1 = len - 1 - k by omega, h2]
    · rintro ⟨hm, hc⟩
      obtain ⟨i, hi, hm⟩ := List.mem_flatMap.mp hm
      obtain ⟨l', hl, rfl⟩ := List.mem_map.mp hm
      rw [List.mem_range] at hi
      unfold cst at hc
      rw [Int.toNat_natCast, show len - 1 - (k + 1) + 1 = len - 1 - k by omega] at hc
      cases hf : f (len - 1 - (k + 1)) d (i + 1) with
      | none => rw [hf] at hc; cases hc
      | some x =>
        cases hg : cst f (len - 1 - k) (d + (i + 1)) l' with
        | none => rw [hf, hg] at hc; cases hc
        | some y =>
          rw [hf, hg] at hc
          have hc := Option.some.inj hc
          refine ⟨(((i + 1 : Nat) : Int), x), wol_mem.mpr ⟨i, by omega, hf, rfl⟩, y, l', ?_, hc.symm, rfl⟩
          rw [Int.toNat_natCast]
          exact (comps_PP f n len k (d + (i + 1)) y l' (by omega) (by omega)).mpr ⟨by rw [show n - (d + (i + 1)) = n - d - (i + 1) by omega]; exact hl, hg⟩
/-! ## the law's search -/
def bst (g : List Int → Option Int) (r : Option Bt) (l : List Int) : Option Bt := match g l with
  | none => r
  | some c => match r with
    | none => some (c, ⟨l⟩)
    | some z => if c < z.1 then some (c, ⟨l⟩) else some z
theorem bst_fold (g : List Int → Option Int) : ∀ (C : List (List Int)) (P : Bt → Prop) (r : Option Bt), IsL P r → C.Pairwise (fun a b => listLt a b = true) → (∀ z, r = some z → ∀ l ∈ C, listLt z.2.items l = true) →
    IsL (fun x => P x ∨ (x.2.items ∈ C ∧ g x.2.items = some x.1)) (C.foldl (bst g) r)
  | [], P, r, h, _, _ => h.congr fun x => by simp
  | l :: C, P, r, h, hp, hr => by
    rw [List.foldl_cons]
    have pc := List.pairwise_cons.mp hp
    have h2 : IsL (fun x => P x ∨ (x.2.items = l ∧ g l = some x.1)) (bst g r l) := by
      unfold bst
      cases hg : g l with
      | none =>
        exact h.congr fun x => ⟨.inl, fun z => z.elim id fun q => nomatch q.2⟩
      | some c =>
        cases r with
        | none => exact ⟨.inr ⟨rfl, rfl⟩, fun x hx => hx.elim (fun q => absurd q (h x)) fun q => .inl (bt_ext (Option.some.inj q.2) q.1.symm)⟩
        | some z =>
          dsimp only
          have hz := hr z rfl l (by simp)
          split
          · rename_i hc
            have lt : blt (c, ⟨l⟩) z = true := by rw [blt_eq, if_neg (by dsimp only; omega)]; exact decide_eq_true hc
            exact ⟨.inr ⟨rfl, rfl⟩, fun x hx => hx.elim (fun q => ble_trans (.inr lt) (h.2 x q)) fun q => .inl (bt_ext (Option.some.inj q.2) q.1.symm)⟩
          · rename_i hc
            have le : blt z (c, ⟨l⟩) = true := by
              rw [blt_eq]
              by_cases q : z.1 = c
              · rw [if_pos q]; exact hz
              · rw [if_neg q]; exact decide_eq_true (by dsimp only; omega)
            exact ⟨.inl h.1, fun x hx => hx.elim (fun q => h.2 x q) fun q => .inr (by rw [show x = (c, ⟨l⟩) from bt_ext (Option.some.inj q.2).symm q.1]; exact le)⟩
    refine (bst_fold g C _ _ h2 pc.2 fun z hz m hm => ?_).congr fun x => ?_
    · have : z.2.items = l ∨ r = some z := by
        unfold bst at hz
        split at hz
        · exact .inr hz
        · split at hz
          · cases hz; exact .inl rfl
          · split at hz
            · cases hz; exact .inl rfl
            · exact .inr hz
      rcases this with e | e
      · rw [e]; exact pc.1 m hm
      · exact hr z e m (by simp [hm])
    · constructor
      · rintro ((h | ⟨h1, h2⟩) | ⟨h1, h2⟩)
        · exact .inl h
        · exact .inr ⟨by simp [h1], by rw [h1]; exact h2⟩
        · exact .inr ⟨by simp [h1], h2⟩
      · rintro (h | ⟨h1, h2⟩)
        · exact .inl (.inl h)
        · rcases List.mem_cons.mp h1 with e | e
          · exact .inl (.inr ⟨e, by rw [← e]; exact h2⟩)
          · exact .inr ⟨e, h2⟩
/-- the search through all partings finds the best -/
theorem search_is (f : Nat → Nat → Nat → Option Int) (n len : Nat) (hl : 1 ≤ len) : (comps n len).foldl (bst (cst f 0 0)) none = btab (wys f n) n len len 0 := by
  obtain ⟨k, rfl⟩ : ∃ k, len = k + 1 := ⟨len - 1, by omega⟩
  have h1 := bst_fold (cst f 0 0) (comps n (k + 1)) (fun _ => False) none (fun _ h => h) (comps_sorted k n) (fun z h => nomatch h)
  refine h1.uniq ((btab_is (wys f n) n (k + 1) (k + 1) 0).congr fun x => ?_)
  rw [comps_PP f n (k + 1) k 0 x.1 x.2.items (Nat.zero_le _) (Nat.le_refl _), Nat.sub_zero, show k + 1 - 1 - k = 0 by omega]
  simp
end

section
variable [Tbl]
open PySem.W (Datum DatumOrd Tup minOf maxOf listLt)
/-! ## how many stones are cut -/
def cutsT (ls : List Int) (s a b : Int) : Option Int := (cutT ls s a b).map fun g => ((nc ls g : Nat) : Int)
theorem cuts_tail {ls : List Int} (h : ls.length ≤ 1000) (g : List Int) (v1 v2 : Option Wv) (st : Sto) :
    (sRet (eOpN lenF (aCons (eLc (cZip2 (aCons (eVar 0) (aCons (eVar 3) aNil))) (gTp (gCn (gN 5) (gCn (gN 6) gNl))) (tBl (eOp2 neD (eVar 5) (eVar 6))) (eK (.int 1)) [4, 5, 6]) aNil))) [some (.d (.tuple ((ls).map .int))), v1, v2, some (.d (.tuple ((g).map .int))), none, none, none] st = .rt (.w (.d (.int ((nc ls g : Nat) : Int)))) st := by
  have e1 := lcL_filterE (g := gTp (gCn (gN 5) (gCn (gN 6) gNl))) (t := tBl (eOp2 neD (eVar 5) (eVar 6))) (c := eK (.int 1)) (env := [some (.d (.tuple ((ls).map .int))), v1, v2, some (.d (.tuple ((g).map .int))), none, none, none]) (st := st) encP (fun _ => .int 1) (fun p => !(p.1 == p.2)) (ls.zip g) [] fun p _ => ⟨_, rfl, by
    obtain ⟨i, j⟩ := p
    simp -implicitDefEqProofs [encP], fun _ => by simp⟩
  rw [List.nil_append] at e1
  have zp : ∀ st, zip2W [(.d (.tuple ((ls).map .int))), (.d (.tuple ((g).map .int)))] st = .ok ⟨(ls.zip g).map encP, []⟩ st := fun st => by rw [← zip_enc]; rfl
  have h3 : ((ls.zip g).map encP).length ≤ 1000000 := by rw [List.length_map, List.length_zip]; omega
  have l1 : lenF [.list (((ls.zip g).filter fun p => !(p.1 == p.2)).map fun _ => PyData.int 1)] = some (.int (nc ls g : Nat)) := by rw [← nc_zip]; simp
  generalize ((nc ls g : Nat) : Int) = N at *
  generalize (((ls.zip g).filter fun p => !(p.1 == p.2)).map fun _ => PyData.int 1) = ZF at *
  generalize (ls.zip g).map encP = ZP at *
  generalize ls.map PyData.int = LS at *
  generalize g.map PyData.int = SS at *
  simp -implicitDefEqProofs [zp, wipeE, h3, e1, l1]
theorem r_cuts_in {ls : List Int} (L : Lg ls) (s a b : Int) (st : Sto) : m_cuts_in [(.d (.tuple ((ls).map .int))), (.d (.int (s))), .d (.tuple [.int a, .int b])] st = .ok (.d (oD (cutsT ls s a b))) st := by
  have hn := L.n
  have e1 := fun st => r_cut_by L s a b st
  unfold cutsT
  cases h : cutT ls s a b with
  | none =>
    rw [h, show cutD' none = .none from rfl] at e1
    show _ = Rs.ok (Wv.d PyData.none) st
    generalize ls.map PyData.int = LS at *
    unfold m_cuts_in d_cuts_in
    simp -implicitDefEqProofs [e1]
  | some g =>
    rw [h, show cutD' (some g) = .tuple (g.map .int) from rfl] at e1
    show _ = Rs.ok (Wv.d (PyData.int ((nc ls g : Nat) : Int))) st
    have e2 := fun v1 v2 st => cuts_tail (ls := ls) (by omega) g v1 v2 st
    generalize ((nc ls g : Nat) : Int) = N at *
    generalize ls.map PyData.int = LS at *
    generalize g.map PyData.int = GS at *
    unfold m_cuts_in d_cuts_in
    generalize (sRet (eOpN lenF (aCons (eLc (cZip2 (aCons (eVar 0) (aCons (eVar 3) aNil))) (gTp (gCn (gN 5) (gCn (gN 6) gNl))) (tBl (eOp2 neD (eVar 5) (eVar 6))) (eK (.int 1)) [4, 5, 6]) aNil))) = TL at *
    simp -implicitDefEqProofs [e1, e2]
/-! ## ways with cuts -/
def fcu (ls : List Int) (s a b : Int) (d : Nat) : Nat → Option Int := fun k => cutsT (sl ls d (d + k)) s a b
def wcu (ls ss : List Int) (a b : Int) (i d : Nat) : List (Int × Int) := wol (fcu ls (ss.getD i 0) a b d) (ls.length - d)
theorem r_ways_cut {ls ss : List Int} (L : Lg ls) {a b s : Int} {at' d : Nat} (hs : ss[at']? = some s) (hd : d ≤ ls.length) (st : Sto) :
    m_ways_on [(.d (.tuple ((ls).map .int))), (.d (.tuple ((ss).map .int))), .d (.tuple [.int a, .int b]), (.d (.int ((at' : Int)))), (.d (.int ((d : Int)))), .d (.bool false)] st = .ok (.d (.list ((wol (fcu ls s a b d) (ls.length - d)).map encP))) st := by
  have hn := L.n
  have ix : atD (ss.map PyData.int) (at' : Int) = some (.int s) := by rw [atD_nat, List.getElem?_map, hs]; rfl
  have rg : rg2W [(.d (.int (1))), (.d (.int ((ls.length : Int) - (d : Int) + 1)))] (st ++ [.lst []]) = .ok ⟨rangeD 1 (ls.length - d), []⟩ (st ++ [.lst []]) := by
    unfold rg2W
    simp [rg_ok (i := 1) (by omega) (by omega), rg_ok (i := (ls.length : Int) - (d : Int) + 1) (by omega) (by omega)]
  have lp := forL_at (g := gN 7) (b := d_ways_on_l1) (fun _ => [some (.d (.tuple ((ls).map .int))), some (.d (.tuple ((ss).map .int))), some (.d (.tuple [.int a, .int b])), some (.d (.int ((at' : Int)))), some (.d (.int ((d : Int)))), some (.d (.bool false)), some (.r st.length), none, none, none]) (fun i => st ++ [.lst ((wol (fcu ls s a b d) i).map encP)]) (rangeD 1 (ls.length - d)) fun i x hx => by
    obtain ⟨hi, rfl⟩ := rangeD_get hx
    rw [show (1 : Int) + (i : Nat) = ((i + 1 : Nat) : Int) by omega]
    refine ⟨_, rfl, ?_⟩
    have L2 : Lg (sl ls d (d + (i + 1))) := sl_lg L (by omega) (by omega)
    have e1 := fun st => r_cuts_in L2 s a b st
    rw [← cut_sl, Int.natCast_add d (i + 1)] at e1
    have e2 := wo_end (x := fcu ls s a b d (i + 1)) (k := 0) (n := 0) (fcu ls s a b d) (m := i) (by omega) rfl (some (.d (.tuple ((ls).map .int)))) (some (.d (.tuple ((ss).map .int)))) (some (.d (.tuple [.int a, .int b]))) (some (.d (.int ((at' : Int))))) (some (.d (.int ((d : Int))))) (some (.d (.bool false))) (some (.d (.tuple (cutD (ls.map PyData.int) (some (d : Int)) (some ((d : Int) + ((i + 1 : Nat) : Int))))))) st
    have hf : fcu ls s a b d (i + 1) = cutsT (sl ls d (d + (i + 1))) s a b := rfl
    rw [hf] at e2
    generalize oD (cutsT (sl ls d (d + (i + 1))) s a b) = OC at *
    generalize ((i + 1 : Nat) : Int) = K at *
    generalize ls.map PyData.int = LS at *
    generalize ss.map PyData.int = SS at *
    generalize (wol (fcu ls s a b d) (i + 1)).map encP = W2 at *
    generalize (wol (fcu ls s a b d) i).map encP = W1 at *
    unfold d_ways_on_l1
    generalize (sIf (tBl (eOp2 ntND (eVar 9) (eK .none))) (sExp (eM appW (eVar 6) (aCons (eTup (aCons (eVar 7) (aCons (eVar 9) aNil))) aNil))) sNil) = IF at *
    rw [x_wp] at e2
    simp -implicitDefEqProofs at e2
    simp -implicitDefEqProofs [e1, ix, e2]
  rw [rangeD_len] at lp
  have ef := x_end_fr (Nat.le_refl st.length) (get_mid st [] (.lst ((wol (fcu ls s a b d) (ls.length - d)).map encP)))
  rw [show (wol (fcu ls s a b d) 0).map encP = [] from rfl] at lp
  have hl : lenF [.tuple (ls.map .int)] = some (.int (ls.length : Int)) := by simp
  generalize (wol (fcu ls s a b d) (ls.length - d)).map encP = W at *
  generalize ls.map PyData.int = LS at *
  generalize ss.map PyData.int = SS at *
  unfold m_ways_on d_ways_on
  simp -implicitDefEqProofs [newW, hl, rg, lp, ef, -forL_cons]
theorem way_cut {ls ss : List Int} (L : Lg ls) (S : Sps ss) (a b : Int) : WayOk ls ss a b (.bool false) (wcu ls ss a b) := by
  have hs := S.n
  refine ⟨fun at' d st h1 h2 => r_ways_cut L (by rw [List.getD_eq_getElem?_getD, List.getElem?_eq_getElem h1]; rfl) h2 st, fun at' d h1 h2 p hp => ?_, fun at' d => ?_⟩
  · obtain ⟨k, hk, _, e⟩ := wol_mem.mp hp
    omega
  · have := wol_len (fcu ls (ss.getD at' 0) a b d) (ls.length - d)
    unfold wcu; omega
theorem r_fewest {ls ss : List Int} (L : Lg ls) {a b : Int} (J : 0 ≤ a ∧ a ≤ b ∧ b ≤ 9) (S : Sps ss) (st : Sto) : m_fewest_cuts [(.d (.tuple ((ls).map .int))), (.d (.tuple ((ss).map .int))), .d (.tuple [.int a, .int b])] st = .ok (.d (eO (btab (wcu ls ss a b) ls.length ss.length ss.length 0))) st := by
  have e1 := fun st => r_need_some L S J st
  have e2 := fun st => r_best_from L.n S.n (way_cut L S a b) st
  generalize eO (btab (wcu ls ss a b) ls.length ss.length ss.length 0) = R at *
  generalize ls.map PyData.int = LS at *
  generalize ss.map PyData.int = SS at *
  unfold m_fewest_cuts d_fewest_cuts
  simp -implicitDefEqProofs [e1, e2]
/-! ## clean partings are those without cuts -/
theorem nc_zero : ∀ {ls g : List Int}, Ct ls g → nc ls g = 0 → g = ls
  | [], [], _, _ => rfl
  | x :: ls, y :: g, h, k => by
    unfold nc at k
    by_cases e : x = y
    · rw [if_pos e] at k
      rw [e, nc_zero h.2 (by omega)]
    · rw [if_neg e] at k; omega
  | [], _ :: _, h, _ => h.elim
  | _ :: _, [], h, _ => h.elim
theorem nc_self : ∀ ls : List Int, nc ls ls = 0
  | [] => rfl
  | x :: ls => by unfold nc; rw [if_pos rfl, nc_self ls]
theorem cutG_0 : ∀ {ls : List Int}, cutG ls 0 0 = ls
  | [] => rfl
  | x :: ls => by rw [cutG_cons, if_pos (by rw [mo_zero]; exact Int.le_refl _), cutG_0]
theorem cut_fit {ls : List Int} (L : Lo ls) {s a b : Int} (h : fitB ls s a b = true) : cutT ls s a b = some ls := by
  unfold fitB at h
  rw [Bool.and_eq_true, decide_eq_true_iff, decide_eq_true_iff] at h
  have ho : offI ls s a = 0 := by unfold offI; rw [if_neg (by omega)]
  have hf : few ls 0 = 0 := few_eq (by rw [mo_zero]; exact Int.le_refl _) (fun d hd => absurd hd (Nat.not_lt_zero _)) (Nat.zero_le _)
  have h0 := mo_nonneg L.b ls.length
  unfold cutT
  rw [ho, if_neg (by omega), hf, cutG_0]
theorem cuts_fit {ls : List Int} (L : Lg ls) {s a b : Int} (J : 0 ≤ a ∧ a ≤ b) : cutsT ls s a b = some 0 ↔ fitB ls s a b = true := by
  unfold cutsT
  constructor
  · intro h
    obtain ⟨g, hg, e⟩ := Option.map_eq_some_iff.mp h
    obtain ⟨h1, h2, _⟩ := cutT_some L.lo s a b J L.n.1 hg
    rw [nc_zero h1 (by omega)] at h2
    exact h2
  · intro h
    rw [cut_fit L.lo h]
    show some ((nc ls ls : Nat) : Int) = some 0
    rw [nc_self]; rfl
theorem cuts_nn {ls : List Int} {s a b c : Int} (h : cutsT ls s a b = some c) : 0 ≤ c ∧ c ≤ ls.length := by
  unfold cutsT at h
  obtain ⟨g, _, rfl⟩ := Option.map_eq_some_iff.mp h
  have := nc_le ls g
  omega
/-- parts that fit in -/
def vl (n : Nat) : Nat → List Int → Prop
  | _, [] => True
  | d, m :: l => 1 ≤ m ∧ d < n ∧ d + m.toNat ≤ n ∧ vl n (d + m.toNat) l
theorem comps_vl (n : Nat) : ∀ (k d : Nat) (l : List Int), l ∈ comps (n - d) (k + 1) → vl n d l ∧ l.length = k + 1
  | 0, d, l, h => by
    rw [comps_1] at h
    split at h
    · rw [List.mem_singleton.mp h]
      exact ⟨⟨by omega, by omega, by omega, trivial⟩, rfl⟩
    · cases h
  | k + 1, d, l, h => by
    rw [comps_succ] at h
    obtain ⟨i, hi, hm⟩ := List.mem_flatMap.mp h
    obtain ⟨l', hl, rfl⟩ := List.mem_map.mp hm
    rw [List.mem_range] at hi
    rw [show n - d - (i + 1) = n - (d + (i + 1)) by omega] at hl
    obtain ⟨h1, h2⟩ := comps_vl n k (d + (i + 1)) l' hl
    exact ⟨⟨by omega, by omega, by omega, by rw [Int.toNat_natCast]; exact h1⟩, by rw [List.length_cons, h2]⟩
theorem cst_0 {ls ss : List Int} (L : Lg ls) {a b : Int} (J : 0 ≤ a ∧ a ≤ b) : ∀ (l : List Int) (at' d : Nat), vl ls.length d l →
    (∀ c, cst (fun i d => fcu ls (ss.getD i 0) a b d) at' d l = some c → 0 ≤ c) ∧ (∀ c, cst (fun i d => fcl ls (ss.getD i 0) a b d) at' d l = some c → c = 0) ∧
    (cst (fun i d => fcl ls (ss.getD i 0) a b d) at' d l = some 0 ↔ cst (fun i d => fcu ls (ss.getD i 0) a b d) at' d l = some 0)
  | [], _, _, _ => ⟨fun c h => by cases h; exact Int.le_refl _, fun c h => by cases h; rfl, Iff.rfl⟩
  | m :: l, at', d, h => by
    obtain ⟨h1, h2, h3, h4⟩ := h
    obtain ⟨i1, i2, i3⟩ := cst_0 (ss := ss) L J l (at' + 1) (d + m.toNat) h4
    have L2 : Lg (sl ls d (d + m.toNat)) := sl_lg L (by omega) h3
    have hf := cuts_fit (s := ss.getD at' 0) L2 J
    have hnn := fun c => cuts_nn (ls := sl ls d (d + m.toNat)) (s := ss.getD at' 0) (a := a) (b := b) (c := c)
    unfold cst
    have eu : fcu ls (ss.getD at' 0) a b d m.toNat = cutsT (sl ls d (d + m.toNat)) (ss.getD at' 0) a b := rfl
    have el : fcl ls (ss.getD at' 0) a b d m.toNat = if fitB (sl ls d (d + m.toNat)) (ss.getD at' 0) a b = true then some 0 else none := rfl
    rw [eu, el]
    generalize cutsT (sl ls d (d + m.toNat)) (ss.getD at' 0) a b = CU at *
    generalize fitB (sl ls d (d + m.toNat)) (ss.getD at' 0) a b = FB at *
    generalize cst (fun i d => fcu ls (ss.getD i 0) a b d) (at' + 1) (d + m.toNat) l = XU at *
    generalize cst (fun i d => fcl ls (ss.getD i 0) a b d) (at' + 1) (d + m.toNat) l = XL at *
    refine ⟨fun c h => ?_, fun c h => ?_, ?_⟩
    · cases CU with
      | none => cases h
      | some x => cases XU with
        | none => cases h
        | some y =>
          have h := Option.some.inj h
          have := (hnn x rfl).1
          have := i1 y rfl
          omega
    · cases FB with
      | false => cases h
      | true => cases XL with
        | none => cases h
        | some y =>
          have h := Option.some.inj h
          have := i2 y rfl
          omega
    · cases FB with
      | false =>
        cases CU with
        | none => exact ⟨(fun h => nomatch h), fun h => nomatch h⟩
        | some x =>
          have hx : x ≠ 0 := fun e => by rw [e] at hf; exact absurd (hf.mp rfl) (by decide)
          have := (hnn x rfl).1
          refine ⟨(fun h => nomatch h), fun h => ?_⟩
          cases XU with
          | none => cases h
          | some y =>
            have h := Option.some.inj h
            have := i1 y rfl
            omega
      | true =>
        rw [hf.mpr rfl]
        rw [if_pos rfl]
        cases XL with
        | none => cases XU with
          | none => exact Iff.rfl
          | some y =>
            refine ⟨(fun h => nomatch h), fun h => ?_⟩
            have h := Option.some.inj h
            exact nomatch i3.mpr (by rw [show y = 0 by omega])
        | some z =>
          have hz := i2 z rfl
          subst hz
          rw [i3.mp rfl]
/-- the first without cuts -/
def cln (g : List Int → Option Int) (r : Option (List Int)) (l : List Int) : Option (List Int) := if g l = some 0 ∧ r = none then some l else r
theorem cln_bst {g h : List Int → Option Int} : ∀ (C : List (List Int)) (r : Option (List Int)), (∀ l ∈ C, (∀ c, g l = some c → c = 0) ∧ (g l = some 0 ↔ h l = some 0)) →
    C.foldl (bst g) (r.map fun l => ((0, ⟨l⟩) : Bt)) = (C.foldl (cln h) r).map fun l => ((0, ⟨l⟩) : Bt)
  | [], _, _ => rfl
  | l :: C, r, H => by
    rw [List.foldl_cons, List.foldl_cons]
    have hl := H l (by simp)
    have e : bst g (r.map fun l => ((0, ⟨l⟩) : Bt)) l = (cln h r l).map fun l => ((0, ⟨l⟩) : Bt) := by
      unfold bst cln
      cases hg : g l with
      | none =>
        rw [if_neg (fun z => by have := hl.2.mpr z.1; rw [hg] at this; cases this)]
      | some c =>
        have hc := hl.1 c hg
        subst hc
        have hh := hl.2.mp hg
        cases r with
        | none => rw [if_pos ⟨hh, rfl⟩]; rfl
        | some z => rw [if_neg (fun q => nomatch q.2)]; rfl
    rw [e]
    exact cln_bst C _ fun l hl => H l (by simp [hl])
end

section
variable [Tbl]
open PySem.W (Datum DatumOrd Tup minOf maxOf listLt)
/-! ## marks: the fewest cuts of so many spans and stones -/
def mnO (o : Option Int) (c : Int) : Int := match o with
  | none => c
  | some o => if c < o then c else o
theorem mnO_le (o : Option Int) (c : Int) : mnO o c ≤ c := by
  unfold mnO
  split
  · exact Int.le_refl _
  · split <;> omega
def upd1 (m : Int) (d : Nat) (f : Nat → Option Int) (p : Int × Int) : Nat → Option Int := fun x => if x = d + p.1.toNat then some (mnO (f x) (m + p.2)) else f x
def updW (m : Int) (d : Nat) (w : List (Int × Int)) (f : Nat → Option Int) : Nat → Option Int := w.foldl (upd1 m d) f
def rowN (w : Nat → List (Int × Int)) (g : Nat → Option Int) : Nat → Nat → Option Int
  | 0 => fun _ => none
  | k + 1 => match g k with
    | none => rowN w g k
    | some m => updW m k (w k) (rowN w g k)
def MR (w : Nat → Nat → List (Int × Int)) (n : Nat) : Nat → Nat → Option Int
  | 0 => fun d => if d = 0 then some 0 else none
  | i + 1 => rowN (w i) (MR w n i) (n + 1)
def bet (f g : Nat → Option Int) : Prop := ∀ x o, f x = some o → ∃ o', g x = some o' ∧ o' ≤ o
theorem bet.refl (f : Nat → Option Int) : bet f f := fun x o h => ⟨o, h, Int.le_refl _⟩
theorem bet.trans {f g h : Nat → Option Int} (a : bet f g) (b : bet g h) : bet f h := fun x o e => by
  obtain ⟨o1, e1, l1⟩ := a x o e
  obtain ⟨o2, e2, l2⟩ := b x o1 e1
  exact ⟨o2, e2, by omega⟩
theorem upd1_bet (m : Int) (d : Nat) (f : Nat → Option Int) (p : Int × Int) : bet f (upd1 m d f p) := fun x o h => by
  unfold upd1
  split
  · refine ⟨_, rfl, ?_⟩
    rw [h]
    show (if m + p.2 < o then m + p.2 else o) ≤ o
    split <;> omega
  · exact ⟨o, h, Int.le_refl _⟩
theorem updW_bet (m : Int) (d : Nat) : ∀ (w : List (Int × Int)) (f : Nat → Option Int), bet f (updW m d w f)
  | [], f => bet.refl f
  | p :: w, f => (upd1_bet m d f p).trans (updW_bet m d w (upd1 m d f p))
theorem updW_in (m : Int) (d : Nat) : ∀ (w : List (Int × Int)) (f : Nat → Option Int) (p : Int × Int), p ∈ w → ∃ v, updW m d w f (d + p.1.toNat) = some v ∧ v ≤ m + p.2
  | q :: w, f, p, h => by
    rcases List.mem_cons.mp h with rfl | h
    · have h1 : upd1 m d f p (d + p.1.toNat) = some (mnO (f (d + p.1.toNat)) (m + p.2)) := by unfold upd1; rw [if_pos rfl]
      obtain ⟨v, e, l⟩ := updW_bet m d w (upd1 m d f p) _ _ h1
      exact ⟨v, e, Int.le_trans l (mnO_le _ _)⟩
    · exact updW_in m d w (upd1 m d f q) p h
theorem updW_back (m : Int) (d : Nat) : ∀ (w : List (Int × Int)) (f : Nat → Option Int) (x : Nat) (v : Int), updW m d w f x = some v → f x = some v ∨ ∃ p ∈ w, x = d + p.1.toNat ∧ v = m + p.2
  | [], f, x, v, h => .inl h
  | p :: w, f, x, v, h => by
    rcases updW_back m d w (upd1 m d f p) x v h with e | ⟨q, hq, e⟩
    · unfold upd1 at e
      split at e
      · rename_i hx
        unfold mnO at e
        split at e
        · exact .inr ⟨p, by simp, hx, (Option.some.inj e).symm⟩
        · rename_i o ho
          have e := Option.some.inj e
          split at e
          · exact .inr ⟨p, by simp, hx, e.symm⟩
          · exact .inl (by rw [ho, e])
      · exact .inl e
    · exact .inr ⟨q, by simp [hq], e⟩
theorem rowN_bet (w : Nat → List (Int × Int)) (g : Nat → Option Int) (k : Nat) : bet (rowN w g k) (rowN w g (k + 1)) := by
  show bet _ (match g k with
    | none => rowN w g k
    | some m => updW m k (w k) (rowN w g k))
  cases g k with
  | none => exact bet.refl _
  | some m => exact updW_bet m k (w k) _
theorem rowN_in (w : Nat → List (Int × Int)) (g : Nat → Option Int) : ∀ (k j : Nat) (m : Int) (p : Int × Int), j < k → g j = some m → p ∈ w j → ∃ v, rowN w g k (j + p.1.toNat) = some v ∧ v ≤ m + p.2
  | 0, j, m, p, h, _, _ => by omega
  | k + 1, j, m, p, h, hg, hp => by
    by_cases q : j = k
    · subst q
      show ∃ v, (match g j with
        | none => rowN w g j
        | some m => updW m j (w j) (rowN w g j)) (j + p.1.toNat) = some v ∧ _
      rw [hg]
      exact updW_in m j (w j) _ p hp
    · obtain ⟨v, e, l⟩ := rowN_in w g k j m p (by omega) hg hp
      obtain ⟨v', e', l'⟩ := rowN_bet w g k _ _ e
      exact ⟨v', e', by omega⟩
theorem rowN_back (w : Nat → List (Int × Int)) (g : Nat → Option Int) : ∀ (k x : Nat) (v : Int), rowN w g k x = some v → ∃ j m, j < k ∧ g j = some m ∧ ∃ p ∈ w j, x = j + p.1.toNat ∧ v = m + p.2
  | 0, x, v, h => by cases h
  | k + 1, x, v, h => by
    have h : (match g k with
        | none => rowN w g k
        | some m => updW m k (w k) (rowN w g k)) x = some v := h
    cases hg : g k with
    | none =>
      rw [hg] at h
      obtain ⟨j, m, a, b⟩ := rowN_back w g k x v h
      exact ⟨j, m, by omega, b⟩
    | some m =>
      rw [hg] at h
      rcases updW_back m k (w k) _ x v h with e | e
      · obtain ⟨j, m, a, b⟩ := rowN_back w g k x v e
        exact ⟨j, m, by omega, b⟩
      · exact ⟨k, m, by omega, hg, e⟩
section
variable {w : Nat → Nat → List (Int × Int)} {n len : Nat} (hw : ∀ i d p, p ∈ w i d → d < n)
include hw
theorem MR_in {i d : Nat} {m : Int} {p : Int × Int} (h : MR w n i d = some m) (hp : p ∈ w i d) : ∃ v, MR w n (i + 1) (d + p.1.toNat) = some v ∧ v ≤ m + p.2 :=
  rowN_in (w i) (MR w n i) (n + 1) d m p (by have := hw i d p hp; omega) h hp
theorem MR_up : ∀ (k d : Nat) (m c : Int) (l : List Int), k ≤ len → MR w n (len - k) d = some m → PP w n len k d c l → ∃ v, MR w n len n = some v ∧ v ≤ m + c
  | 0, d, m, c, l, _, h, q => by
    obtain ⟨rfl, rfl, _⟩ := q
    rw [Nat.sub_zero] at h
    exact ⟨m, h, by omega⟩
  | k + 1, d, m, c, l, hk, h, q => by
    obtain ⟨p, hp, c', l', h1, rfl, _⟩ := q
    rw [show len - 1 - k = len - (k + 1) by omega] at hp
    obtain ⟨v, e, le⟩ := MR_in hw h hp
    rw [show len - (k + 1) + 1 = len - k by omega] at e
    obtain ⟨v', e', le'⟩ := MR_up k (d + p.1.toNat) v c' l' (by omega) e h1
    exact ⟨v', e', by omega⟩
theorem MR_dn : ∀ (i x : Nat) (v c : Int) (l : List Int), i ≤ len → MR w n i x = some v → PP w n len (len - i) x c l → ∃ l', PP w n len len 0 (v + c) l'
  | 0, x, v, c, l, _, h, q => by
    have h : (if x = 0 then some (0 : Int) else none) = some v := h
    split at h
    · rename_i hx
      have h := Option.some.inj h
      subst hx
      rw [Nat.sub_zero] at q
      exact ⟨l, by rw [show v + c = c by omega]; exact q⟩
    · cases h
  | i + 1, x, v, c, l, hi, h, q => by
    obtain ⟨d, m, _, hm, p, hp, rfl, rfl⟩ := rowN_back (w i) (MR w n i) (n + 1) x v h
    rw [Int.add_assoc]
    refine MR_dn i d m (p.2 + c) (p.1 :: l) (by omega) hm ?_
    rw [show len - i = (len - (i + 1)) + 1 by omega]
    exact ⟨p, by rw [show len - 1 - (len - (i + 1)) = i by omega]; exact hp, c, l, q, rfl, rfl⟩
theorem MR_best : MR w n len n = (btab w n len len 0).map (·.1) := by
  have h := btab_is w n len len 0
  cases hb : btab w n len len 0 with
  | none =>
    rw [hb] at h
    cases hm : MR w n len n with
    | none => rfl
    | some m =>
      obtain ⟨l', q⟩ := MR_dn hw len n m 0 [] (Nat.le_refl _) hm (by rw [Nat.sub_self]; exact ⟨rfl, rfl, rfl⟩)
      exact absurd q (h (m + 0, ⟨l'⟩))
  | some z =>
    rw [hb] at h
    obtain ⟨v, e, le⟩ := MR_up hw len 0 0 z.1 z.2.items (Nat.le_refl _) (by rw [Nat.sub_self]; rfl) h.1
    obtain ⟨l', q⟩ := MR_dn hw len n v 0 [] (Nat.le_refl _) e (by rw [Nat.sub_self]; exact ⟨rfl, rfl, rfl⟩)
    have hz := h.2 (v + 0, ⟨l'⟩) q
    have : z.1 ≤ v := by
      rcases hz with rfl | hz
      · show v + 0 ≤ v; omega
      · rw [blt_eq] at hz
        by_cases q : z.1 = v + 0
        · omega
        · rw [if_neg q] at hz
          have := of_decide_eq_true hz
          omega
    rw [e]
    show some v = some z.1
    rw [show v = z.1 by omega]
end
end

section
variable [Tbl]
open PySem.W (Datum DatumOrd Tup minOf maxOf listLt)
/-! ## cut_marks -/
def rowO (f : Nat → Option Int) (n : Nat) : List PyData := (List.range (n + 1)).map fun d => oD (f d)
theorem rowO_len (f : Nat → Option Int) (n : Nat) : (rowO f n).length = n + 1 := by simp [rowO]
theorem rowO_at {f : Nat → Option Int} {n d : Nat} (h : d ≤ n) : atD (rowO f n) (d : Int) = some (oD (f d)) := by
  rw [atD_nat]; unfold rowO
  rw [List.getElem?_map, List.getElem?_range (by omega)]; rfl
theorem rowO_set {f g : Nat → Option Int} {n j : Nat} (h : ∀ x, x ≠ j → f x = g x) : (rowO f n).set j (oD (g j)) = rowO g n := by
  refine List.ext_getElem? fun i => ?_
  unfold rowO
  by_cases q : j = i
  · subst q
    by_cases q2 : j < n + 1
    · rw [List.getElem?_set_self (by simpa using q2), List.getElem?_map, List.getElem?_range q2]; rfl
    · rw [List.getElem?_eq_none (by simp; omega), List.getElem?_eq_none (by simp; omega)]
  · rw [List.getElem?_set_ne q, List.getElem?_map, List.getElem?_map]
    by_cases q2 : i < n + 1
    · rw [List.getElem?_range q2]; show some (oD (f i)) = some (oD (g i)); rw [h i fun e => q e.symm]
    · rw [List.getElem?_eq_none (by simp; omega)]; rfl
theorem cm_1 {n d : Nat} {m : Int} {p : Int × Int} (hp : 1 ≤ p.1 ∧ d + p.1.toNat ≤ n) (f : Nat → Option Int) (v0 v1 v2 v3 v4 v5 : Option Wv) (st : Sto) :
    d_cut_marks_l1 [v0, v1, v2, v3, v4, v5, some (.r st.length), some (.d (.int ((d : Int)))), some (.d (.int (m))), some (.d (.int (p.1))), some (.d (.int (p.2))), none] (st ++ [.lst (rowO f n)]) =
      .nx [v0, v1, v2, v3, v4, v5, some (.r st.length), some (.d (.int ((d : Int)))), some (.d (.int (m))), none, none, none] (st ++ [.lst (rowO (upd1 m d f p) n)]) := by
  have g : (st ++ [Ob.lst (rowO f n)])[st.length]? = some (.lst (rowO f n)) := get_mid st [] _
  have lk := look1_l g
  have hc : (d : Int) + p.1 = ((d + p.1.toNat : Nat) : Int) := by omega
  have e1 := rowO_at (f := f) hp.2
  have hu : upd1 m d f p (d + p.1.toNat) = some (mnO (f (d + p.1.toNat)) (m + p.2)) := by unfold upd1; rw [if_pos rfl]
  have sw := setW_l g (t := ((d + p.1.toNat : Nat) : Int)) (q := d + p.1.toNat) (ixN_nat (by rw [rowO_len]; omega)) (oD (upd1 m d f p (d + p.1.toNat)))
  rw [rowO_set (fun x hx => by unfold upd1; rw [if_neg hx]), set_mid, hu] at sw
  rw [show oD (some (mnO (f (d + p.1.toNat)) (m + p.2))) = .int (mnO (f (d + p.1.toNat)) (m + p.2)) from rfl] at sw
  unfold d_cut_marks_l1
  cases hf : f (d + p.1.toNat) with
  | none =>
    rw [hf] at e1 sw
    rw [show mnO none (m + p.2) = m + p.2 from rfl] at sw
    rw [show oD none = .none from rfl] at e1
    generalize ((d + p.1.toNat : Nat) : Int) = J at *
    generalize st ++ [Ob.lst (rowO f n)] = S1 at *
    generalize st ++ [Ob.lst (rowO (upd1 m d f p) n)] = S2 at *
    generalize rowO f n = R1 at *
    simp -implicitDefEqProofs [hc, lk, e1, sixW, sw]
  | some o =>
    rw [hf] at e1 sw
    rw [show mnO (some o) (m + p.2) = (if m + p.2 < o then m + p.2 else o) from rfl] at sw
    rw [show oD (some o) = .int o from rfl] at e1
    generalize hz : (if m + p.2 < o then m + p.2 else o) = Z at *
    generalize ((d + p.1.toNat : Nat) : Int) = J at *
    generalize st ++ [Ob.lst (rowO f n)] = S1 at *
    generalize st ++ [Ob.lst (rowO (upd1 m d f p) n)] = S2 at *
    generalize rowO f n = R1 at *
    simp -implicitDefEqProofs [hc, lk, e1, hz, sixW, sw]
theorem cm_1l {n d : Nat} {m : Int} (v0 v1 v2 v3 v4 v5 : Option Wv) (st : Sto) : ∀ (W : List (Int × Int)) (f : Nat → Option Int), (∀ p ∈ W, 1 ≤ p.1 ∧ d + p.1.toNat ≤ n) →
    forL (gTp (gCn (gN 9) (gCn (gN 10) gNl))) d_cut_marks_l1 [] (W.map encP) [v0, v1, v2, v3, v4, v5, some (.r st.length), some (.d (.int ((d : Int)))), some (.d (.int (m))), none, none, none] (st ++ [.lst (rowO f n)]) =
      .nx [v0, v1, v2, v3, v4, v5, some (.r st.length), some (.d (.int ((d : Int)))), some (.d (.int (m))), none, none, none] (st ++ [.lst (rowO (updW m d W f) n)])
  | [], f, _ => by simp [updW]
  | p :: W, f, h => by
    have t := cm_1 (m := m) (h p (by simp)) f v0 v1 v2 v3 v4 v5 st
    have gt : gTp (gCn (gN 9) (gCn (gN 10) gNl)) (.d (encP p)) [v0, v1, v2, v3, v4, v5, some (.r st.length), some (.d (.int ((d : Int)))), some (.d (.int (m))), none, none, none] = some [v0, v1, v2, v3, v4, v5, some (.r st.length), some (.d (.int ((d : Int)))), some (.d (.int (m))), some (.d (.int (p.1))), some (.d (.int (p.2))), none] := rfl
    rw [List.map_cons, forL_cons, gt]
    dsimp only
    rw [t]
    exact cm_1l v0 v1 v2 v3 v4 v5 st W (upd1 m d f p) fun q hq => h q (by simp [hq])
section
variable {ls ss : List Int} (L : Lg ls) {a b : Int} (S : Sps ss)
include L S
theorem cm_2 {i d : Nat} (hi : i < ss.length) (hd : d ≤ ls.length) (g : Nat → Option Int) (f : Nat → Option Int) (v3 v4 : Option Wv) (st : Sto) :
    d_cut_marks_l2 [some (.d (.tuple ((ls).map .int))), some (.d (.tuple ((ss).map .int))), some (.d (.tuple [.int a, .int b])), v3, v4, some (.d (.int ((i : Int)))), some (.r st.length), some (.d (.int ((d : Int)))), some (.d (oD (g d))), none, none, none] (st ++ [.lst (rowO f ls.length)]) =
      .nx [some (.d (.tuple ((ls).map .int))), some (.d (.tuple ((ss).map .int))), some (.d (.tuple [.int a, .int b])), v3, v4, some (.d (.int ((i : Int)))), some (.r st.length), none, none, none, none, none] (st ++ [.lst (rowO (match g d with | none => f | some m => updW m d (wcu ls ss a b i d) f) ls.length)]) := by
  have WK := way_cut L S a b
  have er := WK.run i d (st ++ [.lst (rowO f ls.length)]) hi hd
  have wb := WK.b i d hi hd
  cases hg : g d with
  | none =>
    show d_cut_marks_l2 [_, _, _, _, _, _, _, _, some (.d PyData.none), _, _, _] _ = _
    unfold d_cut_marks_l2
    simp -implicitDefEqProofs
  | some m =>
    have lp := cm_1l (n := ls.length) (d := d) (m := m) (some (.d (.tuple ((ls).map .int)))) (some (.d (.tuple ((ss).map .int)))) (some (.d (.tuple [.int a, .int b]))) v3 v4 (some (.d (.int ((i : Int))))) st (wcu ls ss a b i d) f (fun p hp => by have := wb p hp; omega)
    show d_cut_marks_l2 [_, _, _, _, _, _, _, _, some (.d (PyData.int m)), _, _, _] _ = _
    dsimp only
    generalize (wcu ls ss a b i d).map encP = WD at *
    generalize st ++ [Ob.lst (rowO f ls.length)] = S1 at *
    generalize st ++ [Ob.lst (rowO (updW m d (wcu ls ss a b i d) f) ls.length)] = S2 at *
    generalize ls.map PyData.int = LS at *
    generalize ss.map PyData.int = SS at *
    unfold d_cut_marks_l2
    simp -implicitDefEqProofs [er, srcW_dl, lp]
def eX (g : Nat → Option Int) (d : Nat) : PyData := .tuple [.int (d : Int), oD (g d)]
omit L S in
theorem rowO_enum (g : Nat → Option Int) (n : Nat) : enumD (rowO g n) = (List.range (n + 1)).map (eX g) := by
  refine List.ext_getElem? fun i => ?_
  unfold enumD rowO
  rw [List.getElem?_mapIdx, List.getElem?_map, List.getElem?_map]
  by_cases q : i < n + 1
  · rw [List.getElem?_range q]; rfl
  · rw [List.getElem?_eq_none (by simp; omega)]; rfl
theorem cm_2l {i : Nat} (hi : i < ss.length) (g : Nat → Option Int) (v3 v4 : Option Wv) (st : Sto) :
    forL (gTp (gCn (gN 7) (gCn (gN 8) gNl))) d_cut_marks_l2 [] ((List.range (ls.length + 1)).map (eX g)) [some (.d (.tuple ((ls).map .int))), some (.d (.tuple ((ss).map .int))), some (.d (.tuple [.int a, .int b])), v3, v4, some (.d (.int ((i : Int)))), some (.r st.length), none, none, none, none, none] (st ++ [.lst (rowO (fun _ => none) ls.length)]) =
      .nx [some (.d (.tuple ((ls).map .int))), some (.d (.tuple ((ss).map .int))), some (.d (.tuple [.int a, .int b])), v3, v4, some (.d (.int ((i : Int)))), some (.r st.length), none, none, none, none, none] (st ++ [.lst (rowO (rowN (wcu ls ss a b i) g (ls.length + 1)) ls.length)]) := by
  have := forL_at (g := gTp (gCn (gN 7) (gCn (gN 8) gNl))) (b := d_cut_marks_l2) (fun _ => [some (.d (.tuple ((ls).map .int))), some (.d (.tuple ((ss).map .int))), some (.d (.tuple [.int a, .int b])), v3, v4, some (.d (.int ((i : Int)))), some (.r st.length), none, none, none, none, none]) (fun k => st ++ [.lst (rowO (rowN (wcu ls ss a b i) g k) ls.length)]) ((List.range (ls.length + 1)).map (eX g)) fun k x hx => by
    rw [List.getElem?_map] at hx
    obtain ⟨d, hd, rfl⟩ := Option.map_eq_some_iff.mp hx
    obtain ⟨h1, h2⟩ := List.getElem?_eq_some_iff.mp hd
    rw [List.getElem_range] at h2
    subst h2
    rw [List.length_range] at h1
    exact ⟨_, rfl, cm_2 L S hi (by omega) g (rowN (wcu ls ss a b i) g k) v3 v4 st⟩
  rw [List.length_map, List.length_range] at this
  exact this
def FD (ls ss : List Int) (a b : Int) (i : Nat) : List PyData := (List.range (i + 1)).map fun j => .tuple (rowO (MR (wcu ls ss a b) ls.length j) ls.length)
omit L S in
theorem FD_succ (i : Nat) : FD ls ss a b (i + 1) = FD ls ss a b i ++ [.tuple (rowO (MR (wcu ls ss a b) ls.length (i + 1)) ls.length)] := by
  unfold FD
  rw [List.range_succ, List.map_append]; rfl
omit L S in
theorem FD_last (i : Nat) : atD (FD ls ss a b i) (-1) = some (.tuple (rowO (MR (wcu ls ss a b) ls.length i) ls.length)) := by
  unfold FD
  rw [List.range_succ, List.map_append]
  exact atD_last _ _
omit L S in
theorem FD_len (i : Nat) : (FD ls ss a b i).length = i + 1 := by simp [FD]
omit L S in
theorem rowO_last (g : Nat → Option Int) (n : Nat) : atD (rowO g n) (-1) = some (oD (g n)) := by
  unfold rowO
  rw [List.range_succ, List.map_append]
  exact atD_last _ _
theorem cm_3 {i : Nat} (hi : i < ss.length) (v3 : Option Wv) (st rest : Sto) :
    ∃ rest', d_cut_marks_l3 [some (.d (.tuple ((ls).map .int))), some (.d (.tuple ((ss).map .int))), some (.d (.tuple [.int a, .int b])), v3, some (.r st.length), some (.d (.int ((i : Int)))), none, none, none, none, none, none] (st ++ .lst (FD ls ss a b i) :: rest) =
      .nx [some (.d (.tuple ((ls).map .int))), some (.d (.tuple ((ss).map .int))), some (.d (.tuple [.int a, .int b])), v3, some (.r st.length), none, none, none, none, none, none, none] (st ++ .lst (FD ls ss a b (i + 1)) :: rest') := by
  have hn := L.n
  have hs := S.n
  obtain ⟨X, hX⟩ : ∃ X, X = st ++ Ob.lst (FD ls ss a b i) :: rest := ⟨_, rfl⟩
  refine ⟨rest ++ [.lst (rowO (MR (wcu ls ss a b) ls.length (i + 1)) ls.length)], ?_⟩
  have lp := cm_2l L S (a := a) (b := b) hi (MR (wcu ls ss a b) ls.length i) v3 (some (.r st.length)) X
  rw [← rowO_enum, show rowN (wcu ls ss a b i) (MR (wcu ls ss a b) ls.length i) (ls.length + 1) = MR (wcu ls ss a b) ls.length (i + 1) from rfl] at lp
  have nn : rowO (fun _ => none) ls.length = List.replicate (ls.length + 1) PyData.none := by
    unfold rowO
    rw [List.eq_replicate_iff]
    exact ⟨by simp, fun x hx => by obtain ⟨d, _, rfl⟩ := List.mem_map.mp hx; rfl⟩
  have gX : ∀ z : Ob, (X ++ [z])[st.length]? = some (.lst (FD ls ss a b i)) := fun z => by
    rw [hX, show (st ++ Ob.lst (FD ls ss a b i) :: rest) ++ [z] = st ++ Ob.lst (FD ls ss a b i) :: (rest ++ [z]) by simp]
    exact get_mid st _ _
  have lk1 := look1_l (gX (.lst (rowO (fun _ => none) ls.length)))
  have la := FD_last (ls := ls) (ss := ss) (a := a) (b := b) i
  have il := isLst_l (gX (.lst (rowO (MR (wcu ls ss a b) ls.length (i + 1)) ls.length)))
  have gH : (X ++ [Ob.lst (rowO (MR (wcu ls ss a b) ls.length (i + 1)) ls.length)])[X.length]? = some (.lst (rowO (MR (wcu ls ss a b) ls.length (i + 1)) ls.length)) := get_mid X [] _
  have lk := looks_l1 gH
  have ap := appW_l (gX (.lst (rowO (MR (wcu ls ss a b) ls.length (i + 1)) ls.length))) (by rw [FD_len]; omega) (.tuple (rowO (MR (wcu ls ss a b) ls.length (i + 1)) ls.length))
  have hset : (X ++ [Ob.lst (rowO (MR (wcu ls ss a b) ls.length (i + 1)) ls.length)]).set st.length (.lst (FD ls ss a b i ++ [.tuple (rowO (MR (wcu ls ss a b) ls.length (i + 1)) ls.length)])) = st ++ .lst (FD ls ss a b (i + 1)) :: (rest ++ [.lst (rowO (MR (wcu ls ss a b) ls.length (i + 1)) ls.length)]) := by
    rw [hX, show (st ++ Ob.lst (FD ls ss a b i) :: rest) ++ [Ob.lst (rowO (MR (wcu ls ss a b) ls.length (i + 1)) ls.length)] = st ++ Ob.lst (FD ls ss a b i) :: (rest ++ [Ob.lst (rowO (MR (wcu ls ss a b) ls.length (i + 1)) ls.length)]) by simp, set_mid, FD_succ]
  rw [hset] at ap
  have hl : lenF [.tuple (ls.map .int)] = some (.int (ls.length : Int)) := by simp
  have mu : mulN (.list [.none]) (.int ((ls.length : Int) + 1)) = some (rowO (fun _ => none) ls.length) := by
    have fl : ∀ n, (List.replicate n [PyData.none]).flatten = List.replicate n PyData.none := fun n => by
      induction n with
      | zero => rfl
      | succ n ih => rw [List.replicate_succ, List.replicate_succ, List.flatten_cons, ih]; rfl
    rw [nn]
    simp [mulN, show ((ls.length : Int) + 1).toNat = ls.length + 1 by omega, fl]
    omega
  have en : ∀ st, enumW [.d (.tuple (rowO (MR (wcu ls ss a b) ls.length i) ls.length))] st = .ok ⟨enumD (rowO (MR (wcu ls ss a b) ls.length i) ls.length), []⟩ st := fun st => rfl
  have nw : newO (some (rowO (fun _ => none) ls.length)) X = .ok (.r X.length) (X ++ [.lst (rowO (fun _ => none) ls.length)]) := rfl
  rw [← hX]
  generalize (st ++ Ob.lst (FD ls ss a b (i + 1)) :: (rest ++ [Ob.lst (rowO (MR (wcu ls ss a b) ls.length (i + 1)) ls.length)])) = S3 at *
  generalize X ++ [Ob.lst (rowO (MR (wcu ls ss a b) ls.length (i + 1)) ls.length)] = S2 at *
  generalize X ++ [Ob.lst (rowO (fun _ => none) ls.length)] = S1 at *
  generalize rowO (fun _ => none) ls.length = R0 at *
  generalize rowO (MR (wcu ls ss a b) ls.length (i + 1)) ls.length = R2 at *
  generalize enumD (rowO (MR (wcu ls ss a b) ls.length i) ls.length) = EN at *
  generalize rowO (MR (wcu ls ss a b) ls.length i) ls.length = R1 at *
  generalize FD ls ss a b i = F at *
  generalize (ls.length : Int) = N at *
  generalize ls.map PyData.int = LS at *
  generalize ss.map PyData.int = SS at *
  unfold d_cut_marks_l3
  simp -implicitDefEqProofs [hl, lstW, mu, nw, lk1, la, en, lp, il, lk, ap]
end
end

section
variable [Tbl]
open PySem.W (Datum DatumOrd Tup minOf maxOf listLt)
section
variable {ls ss : List Int} (L : Lg ls) {a b : Int} (J : 0 ≤ a ∧ a ≤ b ∧ b ≤ 9) (S : Sps ss)
include L J S
theorem r_need_bound (k : Int) (st : Sto) : m_need_bound [(.d (.tuple ((ls).map .int))), (.d (.tuple ((ss).map .int))), .d (.tuple [.int a, .int b]), (.d (.int (k)))] st = .ok (.d .none) st := by
  have e1 := fun st => r_need_some L S J st
  unfold m_need_bound d_need_bound
  simp -implicitDefEqProofs [e1, r_is_whole, isWhole]
def cmD (ls ss : List Int) (a b k : Int) : PyData := match MR (wcu ls ss a b) ls.length ss.length ls.length with
  | some v => if v < k then .none else .tuple (FD ls ss a b ss.length)
  | none => .tuple (FD ls ss a b ss.length)
omit L J S in
theorem FD_0 : FD ls ss a b 0 = [.tuple (.int 0 :: List.replicate ls.length .none)] := by
  show [PyData.tuple (rowO (MR (wcu ls ss a b) ls.length 0) ls.length)] = _
  congr 2
  unfold rowO
  rw [List.range_succ_eq_map, List.map_cons, List.map_map]
  congr 1
  rw [List.eq_replicate_iff]
  exact ⟨by simp, fun x hx => by
    obtain ⟨d, _, rfl⟩ := List.mem_map.mp hx
    show oD (if d + 1 = 0 then some 0 else none) = .none
    rw [if_neg (by omega)]; rfl⟩
theorem r_cut_marks (k : Int) (st : Sto) : m_cut_marks [(.d (.tuple ((ls).map .int))), (.d (.tuple ((ss).map .int))), .d (.tuple [.int a, .int b]), (.d (.int (k)))] st = .ok (.d (cmD ls ss a b k)) st := by
  have hn := L.n
  have hs := S.n
  obtain ⟨env, st1, e1, rest, rfl, rfl⟩ := forL_goI (g := gN 5) (b := d_cut_marks_l3) (fun i env st' => ∃ rest, env = [some (.d (.tuple ((ls).map .int))), some (.d (.tuple ((ss).map .int))), some (.d (.tuple [.int a, .int b])), some (.d (.int (k))), some (.r st.length), none, none, none, none, none, none, none] ∧ st' = st ++ .lst (FD ls ss a b i) :: rest) (rangeD 0 ss.length) 0 (fun i x hx env st' hI => by
    rw [Nat.zero_add] at hI ⊢
    obtain ⟨rest, rfl, rfl⟩ := hI
    obtain ⟨hi, rfl⟩ := rangeD_get hx
    rw [Int.zero_add]
    obtain ⟨rest', e⟩ := cm_3 L S (a := a) (b := b) hi (some (.d (.int (k)))) st rest
    exact ⟨_, _, _, rfl, e, rest', rfl, rfl⟩) _ (st ++ [.lst (FD ls ss a b 0)]) ⟨[], rfl, rfl⟩
  rw [rangeD_len, Nat.zero_add] at e1
  have e0 := fun st => r_need_bound L J S k st
  have hl1 : lenF [.tuple (ls.map .int)] = some (.int (ls.length : Int)) := by simp
  have hl2 : lenF [.tuple (ss.map .int)] = some (.int (ss.length : Int)) := by simp
  have fl : ∀ n, (List.replicate n [PyData.none]).flatten = List.replicate n PyData.none := fun n => by
    induction n with
    | zero => rfl
    | succ n ih => rw [List.replicate_succ, List.replicate_succ, List.flatten_cons, ih]; rfl
  have mu : mulD (.tuple [.none]) (.int (ls.length : Int)) = some (.tuple (List.replicate ls.length .none)) := by
    rw [o_mul_t]
    by_cases q : (ls.length : Int) = 1
    · rw [if_pos q, show ls.length = 1 by omega]; rfl
    · rw [if_neg q, if_pos ⟨by omega, by omega, by simp, by simp⟩, Int.toNat_natCast, fl]
  have ad : addD (.tuple [.int 0]) (.tuple (List.replicate ls.length .none)) = some (.tuple (.int 0 :: List.replicate ls.length .none)) := by
    rw [o_add_t, if_pos (by simp; omega)]; rfl
  have nw : newW [.d (.tuple (.int 0 :: List.replicate ls.length .none))] st = .ok (.r st.length) (st ++ [.lst (FD ls ss a b 0)]) := by
    rw [FD_0]; rfl
  have rg : ∀ st, rg1W [(.d (.int ((ss.length : Int))))] st = .ok ⟨rangeD 0 ss.length, []⟩ st := fun st => by
    rw [rg1_ok st (by omega) (by omega), Int.toNat_natCast]
  have g := get_mid st rest (.lst (FD ls ss a b ss.length))
  have lk1 := look1_l g
  have lk := looks_l1 g
  have la := FD_last (ls := ls) (ss := ss) (a := a) (b := b) ss.length
  have rl := rowO_last (MR (wcu ls ss a b) ls.length ss.length) ls.length
  have tk : (st ++ Ob.lst (FD ls ss a b ss.length) :: rest).take st.length = st := take_mid _ _
  unfold cmD
  generalize (PyData.int 0 :: List.replicate ls.length PyData.none) = R0 at *
  generalize List.replicate ls.length PyData.none = RP at *
  generalize st ++ Ob.lst (FD ls ss a b ss.length) :: rest = S2 at *
  generalize st ++ [Ob.lst (FD ls ss a b 0)] = S1 at *
  generalize FD ls ss a b ss.length = F at *
  generalize hMR : MR (wcu ls ss a b) ls.length ss.length ls.length = V at *
  generalize rowO (MR (wcu ls ss a b) ls.length ss.length) ls.length = RW at *
  generalize (ls.length : Int) = N1 at *
  generalize (ss.length : Int) = N2 at *
  generalize rangeD 0 ss.length = RG at *
  generalize ls.map PyData.int = LS at *
  generalize ss.map PyData.int = SS at *
  unfold m_cut_marks d_cut_marks
  cases V with
  | none =>
    rw [show oD none = .none from rfl] at rl
    simp -implicitDefEqProofs [-o_add_t, -o_mul_t, e0, hl1, hl2, tupW, mu, ad, nw, rg, e1, lk1, la, rl, lk, tk, -forL_cons]
  | some v =>
    rw [show oD (some v) = .int v from rfl] at rl
    by_cases q : v < k <;> simp -implicitDefEqProofs [-o_add_t, -o_mul_t, e0, hl1, hl2, tupW, mu, ad, nw, rg, e1, lk1, la, rl, q, lk, tk, -forL_cons]
omit L J S in
theorem r_is_mark_row {n : Nat} (hn : n ≤ 1000) (f : Nat → Option Int) (st : Sto) : m_is_mark_row [.d (.tuple (rowO f n)), (.d (.int ((n : Int) + 1)))] st = .ok (.d (.bool true)) st := by
  have e1 := lcL_mapE (g := gN 3) (c := eOr2 (eOp2 isND (eVar 3) (eK .none)) (eCall m_is_whole (aCons (eVar 3) aNil))) (env := [some (.d (.tuple (rowO f n))), some (.d (.int ((n : Int) + 1))), none, none]) (st := st) (fun d => oD (f d)) (fun _ => .bool true) (List.range (n + 1)) [] fun d _ => ⟨_, rfl, by
    generalize (n : Int) = N at *
    generalize rowO f n = R at *
    cases f d with
    | none =>
      rw [show oD none = .none from rfl]
      simp -implicitDefEqProofs
    | some v =>
      rw [show oD (some v) = .int v from rfl]
      simp -implicitDefEqProofs [r_is_whole, isWhole]⟩
  rw [List.nil_append, show (List.range (n + 1)).map (fun d => oD (f d)) = rowO f n from rfl] at e1
  have e2 := o_all' (List.range (n + 1)) fun _ => true
  rw [show (List.range (n + 1)).all (fun _ => true) = true by simp] at e2
  have hl : lenF [.tuple (rowO f n)] = some (.int ((n : Int) + 1)) := by
    have := rowO_len f n
    simp [this]
  have h3 : (rowO f n).length ≤ 1000000 := by rw [rowO_len]; omega
  have hne : neD (.int ((n : Int) + 1)) (.int ((n : Int) + 1)) = some (.bool false) := by rw [o_ne_i]; simp
  generalize ((List.range (n + 1)).map fun _ => PyData.bool true) = TT at *
  generalize rowO f n = R at *
  generalize (n : Int) + 1 = N at *
  unfold m_is_mark_row d_is_mark_row
  simp -implicitDefEqProofs [-o_ne_i, hl, hne, srcW_dt, wipeE, h3, e1, e2]
omit L J S in
theorem FD_at {i len : Nat} (h : i ≤ len) : atD (FD ls ss a b len) (i : Int) = some (.tuple (rowO (MR (wcu ls ss a b) ls.length i) ls.length)) := by
  rw [atD_nat]; unfold FD
  rw [List.getElem?_map, List.getElem?_range (by omega)]; rfl
omit L J S in
theorem wcu_lt {i d : Nat} {p : Int × Int} (h : p ∈ wcu ls ss a b i d) : d < ls.length := by
  obtain ⟨k, hk, _⟩ := wol_mem.mp h
  omega
omit J in
theorem mh_1 {i d : Nat} {m : Int} (hi : i < ss.length) (hd : d ≤ ls.length) (hm : MR (wcu ls ss a b) ls.length i d = some m) {p : Int × Int} (hp : p ∈ wcu ls ss a b i d) (v0 v1 v2 v3 v11 v12 : Option Wv) (st : Sto) :
    d_marks_hold_l1 [v0, v1, v2, v3, some (.d (.tuple (FD ls ss a b ss.length))), some (.d (.int ((i : Int)))), some (.d (.int ((d : Int)))), some (.d (.int (m))), some (.d (.int (p.1))), some (.d (.int (p.2))), none, v11, v12] st =
      .nx [v0, v1, v2, v3, some (.d (.tuple (FD ls ss a b ss.length))), some (.d (.int ((i : Int)))), some (.d (.int ((d : Int)))), some (.d (.int (m))), none, none, none, v11, v12] st := by
  have pb := (way_cut L S a b).b i d hi hd p hp
  obtain ⟨v, hv, le⟩ := MR_in (w := wcu ls ss a b) (n := ls.length) (fun i d p h => wcu_lt h) hm hp
  have f1 := FD_at (ls := ls) (ss := ss) (a := a) (b := b) (i := i + 1) (len := ss.length) (by omega)
  have r1 := rowO_at (f := MR (wcu ls ss a b) ls.length (i + 1)) (n := ls.length) (d := d + p.1.toNat) (by omega)
  rw [hv, show oD (some v) = .int v from rfl] at r1
  rw [show ((i + 1 : Nat) : Int) = (i : Int) + 1 by omega] at f1
  rw [show ((d + p.1.toNat : Nat) : Int) = (d : Int) + p.1 by omega] at r1
  have nl : ¬ m + p.2 < v := by omega
  generalize rowO (MR (wcu ls ss a b) ls.length (i + 1)) ls.length = R at *
  generalize FD ls ss a b ss.length = F at *
  generalize (i : Int) = I at *
  generalize (d : Int) = D at *
  unfold d_marks_hold_l1
  simp -implicitDefEqProofs [f1, r1, nl]
omit J in
theorem mh_2 {i d : Nat} (hi : i < ss.length) (hd : d ≤ ls.length) (v3 v11 v12 : Option Wv) (st : Sto) :
    d_marks_hold_l2 [some (.d (.tuple ((ls).map .int))), some (.d (.tuple ((ss).map .int))), some (.d (.tuple [.int a, .int b])), v3, some (.d (.tuple (FD ls ss a b ss.length))), some (.d (.int ((i : Int)))), some (.d (.int ((d : Int)))), some (.d (oD (MR (wcu ls ss a b) ls.length i d))), none, none, none, v11, v12] st =
      .nx [some (.d (.tuple ((ls).map .int))), some (.d (.tuple ((ss).map .int))), some (.d (.tuple [.int a, .int b])), v3, some (.d (.tuple (FD ls ss a b ss.length))), some (.d (.int ((i : Int)))), none, none, none, none, none, v11, v12] st := by
  have er := (way_cut L S a b).run i d st hi hd
  cases hm : MR (wcu ls ss a b) ls.length i d with
  | none =>
    show d_marks_hold_l2 [_, _, _, _, _, _, _, some (.d PyData.none), _, _, _, _, _] _ = _
    unfold d_marks_hold_l2
    simp -implicitDefEqProofs
  | some m =>
    have lp := forL_seek (g := gTp (gCn (gN 8) (gCn (gN 9) gNl))) (b := d_marks_hold_l1) (env := [some (.d (.tuple ((ls).map .int))), some (.d (.tuple ((ss).map .int))), some (.d (.tuple [.int a, .int b])), v3, some (.d (.tuple (FD ls ss a b ss.length))), some (.d (.int ((i : Int)))), some (.d (.int ((d : Int)))), some (.d (.int (m))), none, none, none, v11, v12]) (st := st) encP (fun _ => none) (wcu ls ss a b i d) fun p hp => ⟨_, rfl, mh_1 L S hi hd hm hp (some (.d (.tuple ((ls).map .int)))) (some (.d (.tuple ((ss).map .int)))) (some (.d (.tuple [.int a, .int b]))) v3 v11 v12 st⟩
    rw [show (wcu ls ss a b i d).findSome? (fun _ => (none : Option Rt)) = none by simp] at lp
    show d_marks_hold_l2 [_, _, _, _, _, _, _, some (.d (PyData.int m)), _, _, _, _, _] _ = _
    generalize (wcu ls ss a b i d).map encP = WD at *
    generalize FD ls ss a b ss.length = F at *
    generalize ls.map PyData.int = LS at *
    generalize ss.map PyData.int = SS at *
    unfold d_marks_hold_l2
    simp -implicitDefEqProofs at lp
    simp -implicitDefEqProofs [er, srcW_dl, lp]
omit J in
theorem mh_3 {i : Nat} (hi : i < ss.length) (v3 v11 v12 : Option Wv) (st : Sto) :
    d_marks_hold_l3 [some (.d (.tuple ((ls).map .int))), some (.d (.tuple ((ss).map .int))), some (.d (.tuple [.int a, .int b])), v3, some (.d (.tuple (FD ls ss a b ss.length))), some (.d (.int ((i : Int)))), none, none, none, none, none, v11, v12] st =
      .nx [some (.d (.tuple ((ls).map .int))), some (.d (.tuple ((ss).map .int))), some (.d (.tuple [.int a, .int b])), v3, some (.d (.tuple (FD ls ss a b ss.length))), none, none, none, none, none, none, v11, v12] st := by
  have lp := forL_seek (g := gTp (gCn (gN 6) (gCn (gN 7) gNl))) (b := d_marks_hold_l2) (env := [some (.d (.tuple ((ls).map .int))), some (.d (.tuple ((ss).map .int))), some (.d (.tuple [.int a, .int b])), v3, some (.d (.tuple (FD ls ss a b ss.length))), some (.d (.int ((i : Int)))), none, none, none, none, none, v11, v12]) (st := st) (eX (MR (wcu ls ss a b) ls.length i)) (fun _ => none) (List.range (ls.length + 1)) fun d hd => ⟨_, rfl, mh_2 L S hi (by rw [List.mem_range] at hd; omega) v3 v11 v12 st⟩
  rw [show (List.range (ls.length + 1)).findSome? (fun _ => (none : Option Rt)) = none by simp, ← rowO_enum] at lp
  have f1 := FD_at (ls := ls) (ss := ss) (a := a) (b := b) (i := i) (len := ss.length) (by omega)
  have en : ∀ st, enumW [.d (.tuple (rowO (MR (wcu ls ss a b) ls.length i) ls.length))] st = .ok ⟨enumD (rowO (MR (wcu ls ss a b) ls.length i) ls.length), []⟩ st := fun st => rfl
  generalize enumD (rowO (MR (wcu ls ss a b) ls.length i) ls.length) = EN at *
  generalize rowO (MR (wcu ls ss a b) ls.length i) ls.length = R at *
  generalize FD ls ss a b ss.length = F at *
  generalize (i : Int) = I at *
  generalize ls.map PyData.int = LS at *
  generalize ss.map PyData.int = SS at *
  unfold d_marks_hold_l3
  simp -implicitDefEqProofs at lp
  simp -implicitDefEqProofs [f1, en, lp]
theorem r_marks_told {k : Int} (hk : ∀ v, MR (wcu ls ss a b) ls.length ss.length ls.length = some v → k ≤ v) (st : Sto) :
    m_marks_hold [(.d (.tuple ((ls).map .int))), (.d (.tuple ((ss).map .int))), .d (.tuple [.int a, .int b]), (.d (.int (k))), .d (.tuple (FD ls ss a b ss.length))] st = .ok (.d (.bool true)) st := by
  have hn := L.n
  have hs := S.n
  have e0 := fun st => r_need_bound L J S k st
  have lp := forL_at (g := gN 5) (b := d_marks_hold_l3) (fun _ => [some (.d (.tuple ((ls).map .int))), some (.d (.tuple ((ss).map .int))), some (.d (.tuple [.int a, .int b])), some (.d (.int (k))), some (.d (.tuple (FD ls ss a b ss.length))), none, none, none, none, none, none, none, none]) (fun _ => st) (rangeD 0 ss.length) fun i x hx => by
    obtain ⟨hi, rfl⟩ := rangeD_get hx
    rw [Int.zero_add]
    exact ⟨_, rfl, mh_3 L S hi (some (.d (.int (k)))) none none st⟩
  have e1 := lcL_mapE (g := gN 12) (c := eCall m_is_mark_row (aCons (eVar 12) (aCons (eOp2 addD (eOpN lenF (aCons (eVar 0) aNil)) (eK (.int 1))) aNil))) (env := [some (.d (.tuple ((ls).map .int))), some (.d (.tuple ((ss).map .int))), some (.d (.tuple [.int a, .int b])), some (.d (.int (k))), some (.d (.tuple (FD ls ss a b ss.length))), none, none, none, none, none, none, none, none]) (st := st) (fun j => .tuple (rowO (MR (wcu ls ss a b) ls.length j) ls.length)) (fun _ => .bool true) (List.range (ss.length + 1)) [] fun j _ => ⟨_, rfl, by
    have e := fun st => r_is_mark_row (n := ls.length) (by omega) (MR (wcu ls ss a b) ls.length j) st
    have hl1 : lenF [.tuple (ls.map .int)] = some (.int (ls.length : Int)) := by simp
    generalize rowO (MR (wcu ls ss a b) ls.length j) ls.length = R at *
    generalize FD ls ss a b ss.length = F at *
    generalize (ls.length : Int) = N at *
    generalize ls.map PyData.int = LS at *
    simp -implicitDefEqProofs [hl1, e]⟩
  rw [List.nil_append, show (List.range (ss.length + 1)).map (fun j => PyData.tuple (rowO (MR (wcu ls ss a b) ls.length j) ls.length)) = FD ls ss a b ss.length from rfl] at e1
  have e2 := o_all' (List.range (ss.length + 1)) fun _ => true
  rw [show (List.range (ss.length + 1)).all (fun _ => true) = true by simp] at e2
  have hl2 : lenF [.tuple (ss.map .int)] = some (.int (ss.length : Int)) := by simp
  have hl3 : lenF [.tuple (FD ls ss a b ss.length)] = some (.int ((ss.length : Int) + 1)) := by
    have := FD_len (ls := ls) (ss := ss) (a := a) (b := b) ss.length
    simp [this]
  have hne : neD (.int ((ss.length : Int) + 1)) (.int ((ss.length : Int) + 1)) = some (.bool false) := by rw [o_ne_i]; simp
  have h3 : (FD ls ss a b ss.length).length ≤ 1000000 := by rw [FD_len]; omega
  have f0 := FD_at (ls := ls) (ss := ss) (a := a) (b := b) (i := 0) (len := ss.length) (by omega)
  have r0 := rowO_at (f := MR (wcu ls ss a b) ls.length 0) (n := ls.length) (d := 0) (by omega)
  rw [show oD (MR (wcu ls ss a b) ls.length 0 0) = .int 0 from rfl] at r0
  rw [show ((0 : Nat) : Int) = 0 from rfl] at f0 r0
  have rg : ∀ st, rg1W [(.d (.int ((ss.length : Int))))] st = .ok ⟨rangeD 0 ss.length, []⟩ st := fun st => by
    rw [rg1_ok st (by omega) (by omega), Int.toNat_natCast]
  have la := FD_last (ls := ls) (ss := ss) (a := a) (b := b) ss.length
  have rl := rowO_last (MR (wcu ls ss a b) ls.length ss.length) ls.length
  have ne0 : neD (.int 0) (.int 0) = some (.bool false) := rfl
  generalize hMR : MR (wcu ls ss a b) ls.length ss.length ls.length = V at *
  generalize rowO (MR (wcu ls ss a b) ls.length ss.length) ls.length = RW at *
  generalize rowO (MR (wcu ls ss a b) ls.length 0) ls.length = RZ at *
  generalize ((List.range (ss.length + 1)).map fun _ => PyData.bool true) = TT at *
  generalize FD ls ss a b ss.length = F at *
  generalize (ss.length : Int) = N2 at *
  generalize rangeD 0 ss.length = RG at *
  generalize ls.map PyData.int = LS at *
  generalize ss.map PyData.int = SS at *
  unfold m_marks_hold d_marks_hold
  cases V with
  | none =>
    rw [show oD none = .none from rfl] at rl
    simp -implicitDefEqProofs [-o_ne_i, e0, hl2, hl3, hne, srcW_dt, wipeE, h3, e1, e2, f0, r0, ne0, rg, lp, la, rl]
  | some v =>
    have hv := hk v rfl
    rw [show oD (some v) = .int v from rfl] at rl
    simp -implicitDefEqProofs [-o_ne_i, e0, hl2, hl3, hne, srcW_dt, wipeE, h3, e1, e2, f0, r0, ne0, rg, lp, la, rl, hv]
end
end

section
variable [Tbl]
open PySem.W (Datum DatumOrd Tup minOf maxOf listLt)
def sameT (x : PyData) (l : List Nat) : Bool := match x with
  | .tuple ys => ys.all isWhole && PyData.eqv x (eT l)
  | _ => false
theorem eqv_t (is : List Int) (l : List Nat) : PyData.eqv (.tuple (is.map .int)) (eT l) = decide (is = l.map fun d : Nat => (d : Int)) := by
  have e : eT l = Datum.toD (⟨l.map fun d : Nat => (d : Int)⟩ : Tup Int) := by
    show PyData.tuple (l.map eN) = PyData.tuple ((l.map fun d : Nat => (d : Int)).map PyData.int)
    rw [List.map_map]; rfl
  have e2 : PyData.tuple (is.map .int) = Datum.toD (⟨is⟩ : Tup Int) := rfl
  rw [e, e2, Datum.eqv]
  rw [decide_eq_decide]
  simp
theorem ints_ex {ys : List PyData} (h : ys.all isWhole = true) : ∃ is : List Int, ys = is.map .int := by
  induction ys with
  | nil => exact ⟨[], rfl⟩
  | cons x xs ih =>
    rw [List.all_cons, Bool.and_eq_true] at h
    obtain ⟨is, rfl⟩ := ih h.2
    cases x with
    | int i => exact ⟨i :: is, rfl⟩
    | _ => cases h.1
theorem sameT_iff (x : PyData) (l : List Nat) : sameT x l = true ↔ x = eT l := by
  constructor
  · intro h
    cases x with
    | tuple ys =>
      unfold sameT at h
      rw [Bool.and_eq_true] at h
      obtain ⟨is, rfl⟩ := ints_ex h.1
      have := h.2
      rw [eqv_t, decide_eq_true_eq] at this
      rw [this, List.map_map]; rfl
    | _ => cases h
  · rintro rfl
    have e : eT l = .tuple ((l.map fun d : Nat => (d : Int)).map .int) := by
      show PyData.tuple (l.map eN) = _
      rw [List.map_map]; rfl
    rw [e]
    unfold sameT
    dsimp only
    rw [← e, Bool.and_eq_true]
    refine ⟨?_, by rw [e, ← e]; conv => lhs; arg 1; rw [e]
                   rw [eqv_t]; simp⟩
    rw [List.all_eq_true]
    intro x hx
    obtain ⟨i, _, rfl⟩ := List.mem_map.mp hx
    rfl
def toldB (t : PyData) (L : List (List Nat)) : Bool := match t with
  | .list xs => decide (xs.length = L.length) && (xs.zip L).all fun p => sameT p.1 p.2
  | _ => false
theorem zip_all {L : List (List Nat)} : ∀ {xs : List PyData}, xs.length = L.length → ((xs.zip L).all (fun p => sameT p.1 p.2) = true ↔ xs = L.map eT) := by
  induction L with
  | nil => intro xs h; cases xs with | nil => simp | cons _ _ => simp at h
  | cons l L ih =>
    intro xs h
    cases xs with
    | nil => simp at h
    | cons x xs =>
      rw [List.zip_cons_cons, List.all_cons, Bool.and_eq_true, ih (by simpa using h), sameT_iff, List.map_cons, List.cons.injEq]
theorem toldB_iff (t : PyData) (L : List (List Nat)) : toldB t L = true ↔ t = .list (L.map eT) := by
  cases t with
  | list xs =>
    unfold toldB
    dsimp only
    rw [Bool.and_eq_true, decide_eq_true_eq]
    constructor
    · rintro ⟨h1, h2⟩
      rw [(zip_all h1).mp h2]
    · intro h
      cases h
      exact ⟨by simp, (zip_all (by simp)).mpr rfl⟩
  | _ => exact ⟨(fun h => by cases h), (fun h => by cases h)⟩
def TLok : PyData → Prop
  | .list xs => xs.length ≤ 1000 ∧ ∀ ys, PyData.tuple ys ∈ xs → ys.length ≤ 1000
  | _ => True
theorem it_1 {x : PyData} (hx : ∀ ys, x = .tuple ys → ys.length ≤ 1000) (l : List Nat) (v0 v1 : Option Wv) (st : Sto) :
    d_is_told_l1 [v0, v1, some (.d x), some (.d (eT l)), none, none] st = seek (if sameT x l = true then none else some (.w (.d (.bool false)))) [v0, v1, none, none, none, none] st := by
  cases x with
  | tuple ys =>
    have hl := hx ys rfl
    have hl2 : ys.length ≤ 1000000 := by omega
    have e1 := lcL_map (g := gN 5) (c := eCall m_is_whole (aCons (eVar 5) aNil)) (env := [v0, v1, some (.d (.tuple ys)), some (.d (eT l)), none, none]) (st := st) (f := fun y => .bool (isWhole y)) ys [] fun y _ => ⟨_, rfl, by simp [r_is_whole]⟩
    have e2 := o_all' ys isWhole
    rw [List.nil_append] at e1
    cases hw : ys.all isWhole with
    | false =>
      rw [hw] at e2
      have hf : sameT (.tuple ys) l = false := by unfold sameT; dsimp only; rw [hw]; rfl
      rw [hf, if_neg Bool.false_ne_true]
      generalize (ys.map fun y => PyData.bool (isWhole y)) = YB at *
      generalize eT l = E at *
      unfold d_is_told_l1
      simp -implicitDefEqProofs [srcW_dt, hl2, wipeE, e1, e2]
    | true =>
      rw [hw] at e2
      obtain ⟨is, rfl⟩ := ints_ex hw
      have q : neD (.tuple (is.map .int)) (eT l) = some (.bool (!decide (is = l.map fun d : Nat => (d : Int)))) := by
        have h := q_ne (⟨is⟩ : Tup Int) (⟨l.map fun d : Nat => (d : Int)⟩ : Tup Int)
        have e : Datum.toD (⟨l.map fun d : Nat => (d : Int)⟩ : Tup Int) = eT l := by
          show PyData.tuple ((l.map fun d : Nat => (d : Int)).map PyData.int) = PyData.tuple (l.map eN)
          rw [List.map_map]; rfl
        rw [e] at h
        rw [show decide (is = l.map fun d : Nat => (d : Int)) = decide ((⟨is⟩ : Tup Int) = ⟨l.map fun d : Nat => (d : Int)⟩) from by rw [decide_eq_decide]; simp]
        exact h
      have hf : sameT (.tuple (is.map .int)) l = decide (is = l.map fun d : Nat => (d : Int)) := by unfold sameT; dsimp only; rw [hw, Bool.true_and, eqv_t]
      rw [hf]
      generalize ((is.map PyData.int).map fun y => PyData.bool (isWhole y)) = YB at *
      generalize eT l = E at *
      generalize is.map PyData.int = IS at *
      unfold d_is_told_l1
      by_cases z : is = l.map fun d : Nat => (d : Int)
      · rw [decide_eq_true z] at q ⊢
        simp -implicitDefEqProofs [srcW_dt, hl2, wipeE, e1, e2, q]
      · rw [decide_eq_false z] at q ⊢
        simp -implicitDefEqProofs [srcW_dt, hl2, wipeE, e1, e2, q]
  | _ =>
    unfold sameT
    generalize eT l = E at *
    unfold d_is_told_l1
    simp -implicitDefEqProofs
end

section
variable [Tbl]
/-! ## sums over a stretch -/
def S (f : Int → Int) (lo : Int) : Nat → Int
  | 0 => 0
  | n + 1 => S f lo n + f (lo + (n : Nat))
theorem S_app (f : Int → Int) (lo : Int) (m : Nat) : ∀ n, S f lo (m + n) = S f lo m + S f (lo + (m : Nat)) n
  | 0 => by simp [S]
  | n + 1 => by
    show S f lo (m + n) + f (lo + ((m + n : Nat) : Int)) = S f lo m + (S f (lo + (m : Nat)) n + f (lo + (m : Nat) + (n : Nat)))
    rw [S_app f lo m n, Int.natCast_add, Int.add_assoc lo]; omega
theorem S_congr {f g : Int → Int} {lo : Int} : ∀ {n : Nat}, (∀ i, i < n → f (lo + (i : Nat)) = g (lo + (i : Nat))) → S f lo n = S g lo n
  | 0, _ => rfl
  | n + 1, h => by
    show S f lo n + _ = S g lo n + _
    rw [S_congr fun i hi => h i (by omega), h n (by omega)]
theorem S_nil (lo : Int) : ∀ n, S (fun _ => 0) lo n = 0
  | 0 => rfl
  | n + 1 => by show S _ lo n + 0 = 0; rw [S_nil lo n]; rfl
theorem S_zero {f : Int → Int} {lo : Int} {n : Nat} (h : ∀ i, i < n → f (lo + (i : Nat)) = 0) : S f lo n = 0 := by rw [S_congr (g := fun _ => 0) h, S_nil]
theorem S_add (f g : Int → Int) (lo : Int) : ∀ n, S (fun x => f x + g x) lo n = S f lo n + S g lo n
  | 0 => rfl
  | n + 1 => by show S _ lo n + (f _ + g _) = (S f lo n + f _) + (S g lo n + g _); rw [S_add f g lo n]; omega
theorem S_one (q c lo : Int) : ∀ n : Nat, S (fun x => if q = x then c else 0) lo n = if lo ≤ q ∧ q < lo + (n : Nat) then c else 0
  | 0 => by rw [if_neg (by omega)]; rfl
  | n + 1 => by
    show S _ lo n + (if q = lo + (n : Nat) then c else 0) = _
    rw [S_one q c lo n]
    by_cases h : q = lo + (n : Nat)
    · rw [if_neg (by omega), if_pos h, if_pos (by omega)]; omega
    · by_cases h2 : lo ≤ q ∧ q < lo + (n : Nat)
      · rw [if_pos h2, if_neg h, if_pos (by omega)]; omega
      · rw [if_neg h2, if_neg h, if_neg (by omega)]; rfl
theorem S_list (f : Int → Int) (lo : Nat) : ∀ n : Nat, S f (lo : Int) n = ((List.range n).map fun i => f ((lo + i : Nat) : Int)).sum
  | 0 => rfl
  | n + 1 => by
    rw [List.range_succ, List.map_append, List.sum_append, ← S_list f lo n]
    show _ + f _ = _ + (f _ + 0)
    rw [Int.natCast_add]; omega
/-! ## how many ways -/
def cnt (b : Int) (m : Nat) : Nat → Int → Int
  | 0, r => if r = 0 then 1 else 0
  | k + 1, r => S (cnt b m k) (r - b) m
theorem cnt_neg {a b : Int} {m : Nat} (ha : 0 ≤ a) (hm : (m : Int) = b - a + 1) : ∀ k r, r < 0 → cnt b m k r = 0
  | 0, r, h => by show (if r = 0 then (1 : Int) else 0) = 0; rw [if_neg (by omega)]
  | k + 1, r, h => S_zero fun i hi => cnt_neg ha hm k _ (by omega)
/-- what the program sums -/
theorem cnt_cut {a b : Int} {m : Nat} (ha : 0 ≤ a) (hm : (m : Int) = b - a + 1) (k : Nat) {r : Int} (hr : 0 ≤ r) {lo hi : Nat} (hlo : (lo : Int) = if 0 < r - b then r - b else 0) (hhi : (hi : Int) = if 0 < r - a + 1 then r - a + 1 else 0) :
    S (cnt b m k) (lo : Int) (hi - lo) = cnt b m (k + 1) r := by
  show _ = S (cnt b m k) (r - b) m
  by_cases h1 : 0 < r - b
  · rw [if_pos h1] at hlo
    rw [if_pos (by omega)] at hhi
    rw [show hi - lo = m by omega, hlo]
  · rw [if_neg h1] at hlo
    by_cases h2 : 0 < r - a + 1
    · rw [if_pos h2] at hhi
      have e : m = (b - r).toNat + (hi - lo) := by omega
      rw [e, S_app, S_zero (f := cnt b ((b - r).toNat + (hi - lo)) k) (n := (b - r).toNat) (fun i hi => by rw [← e]; exact cnt_neg ha hm k _ (by omega)), Int.zero_add]
      rw [show r - b + ((b - r).toNat : Int) = (lo : Int) by omega]
    · rw [if_neg h2] at hhi
      rw [show hi - lo = 0 by omega]
      exact (S_zero fun i hi => cnt_neg ha hm k _ (by omega)).symm
def wL (f : Int → Int) (R : Nat) : List Int := (List.range (R + 1)).map fun i : Nat => f (i : Int)
theorem wL_len (f : Int → Int) (R : Nat) : (wL f R).length = R + 1 := by simp [wL]
theorem wL_cut (f : Int → Int) {R lo hi : Nat} (h1 : hi ≤ R + 1) : (cutD (wL f R) (some (lo : Int)) (some (hi : Int))).sum = S f (lo : Int) (hi - lo) := by
  unfold cutD
  rw [HT.sIx_nat, HT.sIx_nat, wL_len, Nat.min_eq_left h1, S_list]
  by_cases h : lo ≤ hi
  · rw [Nat.min_eq_left (by omega)]
    congr 1
    refine List.ext_getElem (by simp [wL]; omega) fun i h2 h3 => ?_
    have hi' : i < hi - lo := by simpa using h3
    simp [wL]
  · have e : hi - min lo (R + 1) = 0 := by omega
    rw [e, show hi - lo = 0 by omega]
    simp
theorem cut_int (xs : List Int) (lo hi : Option Int) : cutD (xs.map PyData.int) lo hi = (cutD xs lo hi).map .int := by unfold cutD; simp
theorem lm_turn {a b : Int} {m R : Nat} (J : 0 ≤ a ∧ a ≤ b ∧ b ≤ 9) (hm : (m : Int) = b - a + 1) (hR : R < 1000) (k : Nat) (v0 v1 : Option Wv) (x : PyData) (st : Sto) :
    d_layings_many_l1 [v0, v1, some (.d (.tuple [.int a, .int b])), some (.d (.int ((R : Int)))), some (.d (.list ((wL (cnt b m k) R).map .int))), some (.d x), none, none] st = .nx [v0, v1, some (.d (.tuple [.int a, .int b])), some (.d (.int ((R : Int)))), some (.d (.list ((wL (cnt b m (k + 1)) R).map .int))), none, none, none] st := by
  have rg : rg1W [(.d (.int ((R : Int) + 1)))] st = .ok ⟨(List.range (R + 1)).map (fun i => PyData.int (0 + (i : Nat))), []⟩ st := by
    rw [rg1_ok (i := (R : Int) + 1) st (by omega) (by omega)]
    rw [show ((R : Int) + 1).toNat = R + 1 by omega]; rfl
  have e1 := lcL_mapE (g := gN 7) (c := eOpN sumF (aCons (eSlice (eVar 4) (pSome (eOpN max2F (aCons (eK (.int 0)) (aCons (eOp2 subD (eVar 7) (eOp2 ixD (eVar 2) (eK (.int 1)))) aNil)))) (pSome (eOpN max2F (aCons (eK (.int 0)) (aCons (eOp2 addD (eOp2 subD (eVar 7) (eOp2 ixD (eVar 2) (eK (.int 0)))) (eK (.int 1))) aNil))))) aNil))
    (env := [v0, v1, some (.d (.tuple [.int a, .int b])), some (.d (.int ((R : Int)))), some (.d (.list ((wL (cnt b m k) R).map .int))), some (.d x), none, none]) (st := st) (fun i : Nat => PyData.int (0 + (i : Nat))) (fun i : Nat => PyData.int (cnt b m (k + 1) (i : Int))) (List.range (R + 1)) [] fun i hi => by
    have hi := List.mem_range.mp hi
    rw [Int.zero_add]
    obtain ⟨lo, hlo⟩ : ∃ lo : Nat, (if b < (i : Int) then (i : Int) - b else 0) = (lo : Int) := ⟨(if b < (i : Int) then (i : Int) - b else 0).toNat, by split <;> omega⟩
    obtain ⟨hh, hhi⟩ : ∃ hh : Nat, (if 0 < (i : Int) - a + 1 then (i : Int) - a + 1 else 0) = (hh : Int) := ⟨(if 0 < (i : Int) - a + 1 then (i : Int) - a + 1 else 0).toNat, by split <;> omega⟩
    have hle : hh ≤ R + 1 := by have := hhi; split at this <;> omega
    have cs := wL_cut (cnt b m k) (lo := lo) hle
    rw [cnt_cut J.1 hm k (show (0 : Int) ≤ i by omega) (by rw [← hlo]; split <;> split <;> omega) hhi.symm] at cs
    refine ⟨_, rfl, ?_⟩
    simp -implicitDefEqProofs [hlo, hhi, cut_int, cs]
  rw [List.nil_append] at e1
  have e2 : ((List.range (R + 1)).map fun i : Nat => PyData.int (cnt b m (k + 1) (i : Int))) = (wL (cnt b m (k + 1)) R).map .int := by unfold wL; rw [List.map_map]; rfl
  rw [e2] at e1
  have hl : ((List.range (R + 1)).map fun i : Nat => PyData.int (0 + (i : Nat))).length ≤ 1000000 := by simp; omega
  generalize ((List.range (R + 1)).map fun i : Nat => PyData.int (0 + (i : Nat))) = RL at *
  generalize (wL (cnt b m (k + 1)) R).map PyData.int = W2 at *
  generalize (wL (cnt b m k) R).map PyData.int = W1 at *
  unfold d_layings_many_l1
  simp -implicitDefEqProofs [rg, hl, wipeE, e1]
theorem cnt0 (b : Int) (m R : Nat) : wL (cnt b m 0) R = 1 :: List.replicate R 0 := by
  unfold wL
  rw [List.range_succ_eq_map, List.map_cons, List.map_map]
  congr 1
  rw [List.eq_replicate_iff]
  refine ⟨by simp, fun x hx => ?_⟩
  obtain ⟨i, _, rfl⟩ := List.mem_map.mp hx
  show (if ((i + 1 : Nat) : Int) = 0 then (1 : Int) else 0) = 0
  rw [if_neg (by omega)]
theorem flat_one (R : Nat) (x : PyData) : (List.replicate R [x]).flatten = List.replicate R x := by
  induction R with
  | zero => rfl
  | succ n ih => rw [List.replicate_succ, List.replicate_succ, List.flatten_cons, ih]; rfl
def manyW (ls : List Int) (s b : Int) (m : Nat) : Int := cnt b m (ls.length - 1) (s - ls.sum)
theorem r_layings_many {ls : List Int} (L : Lg ls) {s a b : Int} {m : Nat} (hs : 1 ≤ s ∧ s ≤ 80) (J : 0 ≤ a ∧ a ≤ b ∧ b ≤ 9) (hm : (m : Int) = b - a + 1) (st : Sto) :
    m_layings_many [(.d (.tuple ((ls).map .int))), (.d (.int (s))), .d (.tuple [.int a, .int b])] st = .ok (.d (.int (manyW ls s b m))) st := by
  have hn := L.n
  have hsum := L.sum
  have e0 := fun st => r_need_all L hs J st
  have e1 := fun st => r_rest (ls := ls) s st
  by_cases neg : s - ls.sum < 0
  · have e2 : manyW ls s b m = 0 := cnt_neg J.1 hm _ _ neg
    have neg' : s < ls.sum := by omega
    rw [e2]
    unfold m_layings_many d_layings_many
    simp -implicitDefEqProofs [e0, e1, neg]
  · obtain ⟨R, hR⟩ : ∃ R : Nat, s - ls.sum = (R : Int) := ⟨(s - ls.sum).toNat, by omega⟩
    have hR2 : R < 1000 := by omega
    have lp := forL_at (g := gN 5) (b := d_layings_many_l1) (fun k => [some (.d (.tuple ((ls).map .int))), some (.d (.int (s))), some (.d (.tuple [.int a, .int b])), some (.d (.int ((R : Int)))), some (.d (.list ((wL (cnt b m k) R).map .int))), none, none, none]) (fun _ => st) (rangeD 0 (ls.length - 1)) fun i x _ => ⟨_, rfl, lm_turn J hm hR2 i (some (.d (.tuple ((ls).map .int)))) (some (.d (.int (s)))) x st⟩
    rw [rangeD_len, cnt0] at lp
    have rg := rg1_ok (i := (ls.length : Int) - 1) st (by omega) (by omega)
    rw [show ((ls.length : Int) - 1).toNat = ls.length - 1 by omega] at rg
    have ix : atD ((wL (cnt b m (ls.length - 1)) R).map PyData.int) (R : Int) = some (.int (manyW ls s b m)) := by
      rw [atD_nat, List.getElem?_map]
      unfold wL manyW
      rw [List.getElem?_map, List.getElem?_range (by omega), hR]; rfl
    have w0 : (1 :: List.replicate R (0 : Int)).map PyData.int = PyData.int 1 :: List.replicate R (.int 0) := by simp
    rw [w0] at lp
    generalize (wL (cnt b m (ls.length - 1)) R).map PyData.int = W1 at *
    unfold m_layings_many d_layings_many
    have h1 : ¬ (R : Int) < 0 := by omega
    have h3 : 1 + R ≤ 1000000 := by omega
    have h2 : (0 : Int) ≤ R ∧ (R : Int) ≤ 1000 := by omega
    simp -implicitDefEqProofs [e0, e1, hR, h1, h3, lstW, h2.1, h2.2, flat_one, rg, lp, ix, -forL_cons]
end

section
variable [Tbl]
/-! ## is a thing a laying? -/
def eD : Option Int → PyData
  | none => .none
  | some z => .int z
def stepOk (a b : Int) (e : Option Int) (i : Int) : Bool := match e with
  | none => decide ((0 : Int) ≤ i) && decide (i ≤ 0)
  | some z => decide (z + a ≤ i) && decide (i ≤ z + b)
/-- none: no; else where the stones end -/
def chk (a b : Int) : Option Int → List PyData → List Int → Option (Option Int)
  | e, x :: xs, l :: ls => match x with
    | .int i => if stepOk a b e i = true then chk a b (some (i + l)) xs ls else none
    | _ => none
  | e, _, _ => some e
def isN (x : PyData) : Bool := match x with
  | .int _ => true
  | _ => false
def laidB (a b s : Int) (ls : List Int) : PyData → Bool
  | .tuple xs => decide (xs.length = ls.length) && (match chk a b none xs ls with
    | some (some z) => z == s
    | _ => false)
  | _ => false
theorem chk_int {a b : Int} : ∀ {xs : List PyData} {ls : List Int} {e r : Option Int}, xs.length = ls.length → chk a b e xs ls = some r → xs.all isWhole = true
  | [], _, _, _, _, _ => rfl
  | x :: xs, [], _, _, h, _ => by simp at h
  | x :: xs, l :: ls, e, r, h, hc => by
    unfold chk at hc
    split at hc
    · rename_i i
      split at hc
      · rw [List.all_cons, chk_int (by simpa using h) hc]; rfl
      · cases hc
    · cases hc
theorem chk_end {a b : Int} : ∀ {xs : List PyData} {ls : List Int} {e r : Option Int}, xs.length = ls.length → chk a b e xs ls = some r → r = none → ls = []
  | [], [], _, _, _, _, _ => rfl
  | x :: xs, [], _, _, h, _, _ => by simp at h
  | [], l :: ls, _, _, h, _, _ => by simp at h
  | x :: xs, l :: ls, e, r, h, hc, hr => by
    subst hr
    unfold chk at hc
    split at hc
    · rename_i i
      split at hc
      · have := chk_end (by simpa using h) hc rfl
        subst this
        have hx : xs = [] := by cases xs with | nil => rfl | cons _ _ => simp at h
        subst hx
        simp [chk] at hc
      · cases hc
    · cases hc
def pk (a b : Int) (is ls : List Int) (k : Nat) : Bool := decide (a ≤ is.getD (k + 1) 0 - is.getD k 0 - ls.getD k 0) && decide (is.getD (k + 1) 0 - is.getD k 0 - ls.getD k 0 ≤ b)
theorem chk_all (a b : Int) : ∀ (is ls : List Int) (i l : Int), is.length = ls.length → chk a b (some (i + l)) (is.map .int) ls = if (List.range is.length).all (pk a b (i :: is) (l :: ls)) = true then some (some ((i :: is).getD is.length 0 + (l :: ls).getD is.length 0)) else none
  | [], [], i, l, _ => rfl
  | [], _ :: _, _, _, h => by simp at h
  | _ :: _, [], _, _, h => by simp at h
  | j :: is, l' :: ls, i, l, h => by
    show (if stepOk a b (some (i + l)) j = true then chk a b (some (j + l')) (is.map .int) ls else none) = _
    rw [chk_all a b is ls j l' (by simpa using h), List.length_cons, List.range_succ_eq_map, List.all_cons, List.all_map]
    have e0 : pk a b (i :: j :: is) (l :: l' :: ls) 0 = stepOk a b (some (i + l)) j := by
      show (decide (a ≤ j - i - l) && decide (j - i - l ≤ b)) = (decide (i + l + a ≤ j) && decide (j ≤ i + l + b))
      rw [Bool.eq_iff_iff]; simp only [Bool.and_eq_true, decide_eq_true_eq]; omega
    have e1 : (pk a b (i :: j :: is) (l :: l' :: ls) ∘ Nat.succ) = pk a b (j :: is) (l' :: ls) := rfl
    rw [e0, e1]
    cases stepOk a b (some (i + l)) j
    · simp
    · simp
theorem isN_of {xs : List PyData} (h : xs.all isWhole = true) : ∃ is : List Int, xs = is.map .int := by
  induction xs with
  | nil => exact ⟨[], rfl⟩
  | cons x xs ih =>
    rw [List.all_cons, Bool.and_eq_true] at h
    obtain ⟨is, rfl⟩ := ih h.2
    cases x with
    | int i => exact ⟨i :: is, rfl⟩
    | _ => cases h.1
section
variable {a b : Int}
theorem il_go : ∀ (xs : List PyData) (ls : List Int) (e : Option Int) (v0 v1 v3 : Option Wv) (st : Sto),
    forL (gTp (gCn (gN 5) (gCn (gN 6) gNl))) d_is_laid_l1 [] (List.zipWith pairD xs (ls.map .int)) [v0, v1, some (.d (.tuple [.int a, .int b])), v3, some (.d (eD e)), none, none] st =
      (match chk a b e xs ls with
      | some e' => .nx [v0, v1, some (.d (.tuple [.int a, .int b])), v3, some (.d (eD e')), none, none] st
      | none => .rt (.w (.d (.bool false))) st)
  | [], ls, e, v0, v1, v3, st => by cases ls <;> simp [chk]
  | x :: xs, [], e, v0, v1, v3, st => by simp [chk]
  | x :: xs, l :: ls, e, v0, v1, v3, st => by
    show forL _ _ [] (pairD x (.int l) :: List.zipWith pairD xs (ls.map .int)) _ _ = _
    rw [forL_cons]
    have eg : gTp (gCn (gN 5) (gCn (gN 6) gNl)) (.d (pairD x (.int l))) [v0, v1, some (.d (.tuple [.int a, .int b])), v3, some (.d (eD e)), none, none] = some [v0, v1, some (.d (.tuple [.int a, .int b])), v3, some (.d (eD e)), some (.d x), some (.d (.int (l)))] := rfl
    rw [eg]
    dsimp only
    have tn : d_is_laid_l1 [v0, v1, some (.d (.tuple [.int a, .int b])), v3, some (.d (eD e)), some (.d x), some (.d (.int (l)))] st = (match x with
      | .int i => if stepOk a b e i = true then .nx [v0, v1, some (.d (.tuple [.int a, .int b])), v3, some (.d (eD (some (i + l)))), none, none] st else .rt (.w (.d (.bool false))) st
      | _ => .rt (.w (.d (.bool false))) st) := by
      unfold d_is_laid_l1
      cases e with
      | none =>
        cases x with
        | int i => cases h : stepOk a b none i <;> have h' := h <;> simp only [stepOk] at h' <;> simp -implicitDefEqProofs [eD, r_is_from_to, isFT, h, h']
        | _ => simp -implicitDefEqProofs [eD, r_is_from_to, isFT]
      | some z =>
        cases x with
        | int i => cases h : stepOk a b (some z) i <;> have h' := h <;> simp only [stepOk] at h' <;> simp -implicitDefEqProofs [eD, r_is_from_to, isFT, h, h']
        | _ => simp -implicitDefEqProofs [eD, r_is_from_to, isFT]
    rw [tn]
    unfold chk
    cases x with
    | int i =>
      dsimp only
      cases stepOk a b e i
      · rfl
      · rw [if_pos rfl, if_pos rfl, SR.seq_nx]
        exact il_go xs ls (some (i + l)) v0 v1 v3 st
    | _ => rfl
theorem r_is_laid {ls : List Int} (L : Lg ls) (s : Int) (d : PyData) (st : Sto) : m_is_laid [(.d (.tuple ((ls).map .int))), (.d (.int (s))), .d (.tuple [.int a, .int b]), .d d] st = .ok (.d (.bool (laidB a b s ls d))) st := by
  have hn := L.n
  cases d with
  | tuple xs =>
    by_cases hl : xs.length = ls.length
    · have lp := il_go (a := a) (b := b) xs ls none (some (.d (.tuple ((ls).map .int)))) (some (.d (.int (s)))) (some (.d (.tuple xs))) st
      have hz : (List.zipWith pairD xs (ls.map .int)).length ≤ 1000000 := by simp; omega
      have h1 : xs.length ≤ 1000000 := by omega
      have h2 : ls.length ≤ 1000000 := by omega
      have hl2 : (xs.length : Int) = ls.length := by omega
      unfold laidB
      dsimp only
      rw [decide_eq_true hl, Bool.true_and]
      rw [show eD none = PyData.none from rfl] at lp
      cases hc : chk a b none xs ls with
      | none =>
        rw [hc] at lp
        unfold m_is_laid d_is_laid
        simp -implicitDefEqProofs [hl, zip2W, h1, h2, lp, -forL_cons]
      | some e =>
        rw [hc] at lp
        cases e with
        | none => exact absurd (chk_end hl hc rfl) (by intro e; rw [e] at hn; simp at hn)
        | some z =>
          simp only [eD] at lp
          unfold m_is_laid d_is_laid
          simp -implicitDefEqProofs [hl, zip2W, h1, h2, lp, -forL_cons]
    · have hl2 : ¬ (xs.length : Int) = ls.length := by omega
      unfold laidB
      dsimp only
      rw [decide_eq_false hl, Bool.false_and]
      unfold m_is_laid d_is_laid
      simp -implicitDefEqProofs [hl2]
  | _ => unfold m_is_laid d_is_laid laidB; simp -implicitDefEqProofs
theorem r_is_laying {ls : List Int} (L : Lg ls) {s : Int} (hs : 1 ≤ s ∧ s ≤ 80) (J : 0 ≤ a ∧ a ≤ b ∧ b ≤ 9) (d : PyData) (st : Sto) : m_is_laying [(.d (.tuple ((ls).map .int))), (.d (.int (s))), .d (.tuple [.int a, .int b]), .d d] st = .ok (.d (.bool (laidB a b s ls d))) st := by
  have e1 := fun st => r_need_all L hs J st
  have e2 := fun st => r_is_laid (a := a) (b := b) L s d st
  unfold m_is_laying d_is_laying
  simp -implicitDefEqProofs [e1, e2]
end
end

section
variable [Tbl]
def fN (t m i : Nat) : Nat := t / m + if i < t % m then 1 else 0
theorem fN_succ {t m i : Nat} (hi : i < m) : fN (t + 1) m i = fN t m i + if i = t % m then 1 else 0 := by
  have hm : 0 < m := by omega
  have hr : t % m < m := Nat.mod_lt _ hm
  have ht : m * (t / m) + t % m = t := Nat.div_add_mod t m
  unfold fN
  by_cases q : t % m + 1 < m
  · have e1 : (t + 1) / m = t / m := by
      have : t + 1 = m * (t / m) + (t % m + 1) := by omega
      rw [this, Nat.mul_add_div hm, Nat.div_eq_of_lt q]; rfl
    have e2 : (t + 1) % m = t % m + 1 := by
      have : t + 1 = m * (t / m) + (t % m + 1) := by omega
      rw [this, Nat.mul_add_mod, Nat.mod_eq_of_lt q]
    rw [e1, e2]
    split <;> split <;> split <;> omega
  · have e0 : t + 1 = m * (t / m + 1) := by rw [Nat.mul_add]; omega
    have e1 : (t + 1) / m = t / m + 1 := by rw [e0, Nat.mul_div_cancel_left _ hm]
    have e2 : (t + 1) % m = 0 := by rw [e0, Nat.mul_mod_right]
    rw [e1, e2]
    split <;> split <;> split <;> omega
def fI (t m i : Nat) : Int := ((fN t m i : Nat) : Int)
theorem fI_eq (t m i : Nat) : (t : Int) / (m : Int) + (if (i : Int) < (t : Int) % (m : Int) then 1 else 0) = fI t m i := by
  unfold fI fN
  rw [← Int.natCast_ediv, ← Int.natCast_emod]
  by_cases q : i < t % m
  · rw [if_pos (by omega), if_pos q]; omega
  · rw [if_neg (by omega), if_neg q]; omega
def sp (ls : List Int) (f : Nat → Int) : Nat → Int
  | 0 => 0
  | k + 1 => sp ls f k + (ls[k]?).getD 0 + f k
def stL (ls : List Int) (f : Nat → Int) (k : Nat) : List PyData := (List.range k).map (fun i => PyData.int (sp ls f i)) ++ [.int (sp ls f k)]
theorem stL_succ (ls : List Int) (f : Nat → Int) (k : Nat) : stL ls f (k + 1) = stL ls f k ++ [.int (sp ls f (k + 1))] := by
  unfold stL
  rw [List.range_succ, List.map_append]
  rfl
theorem stL_len (ls : List Int) (f : Nat → Int) (k : Nat) : (stL ls f k).length = k + 1 := by simp [stL]
theorem get_map {ls : List Int} {k : Nat} (h : k < ls.length) : atD (ls.map PyData.int) (k : Nat) = some (.int ((ls[k]?).getD 0)) := by
  rw [atD_nat]
  simp [h]
theorem sb_turn {ls : List Int} {m r i : Nat} (hm : ls.length = m + 1) (hm2 : m < 1000) (s : Int) (hi : i < m) (x5 x6 : Option Wv) (st : Sto) : d_spread_by_l1 [some (.d (.tuple (ls.map .int))), some (.d (.int s)), some (.d (.int (m : Int))), some (.d (.int (r : Int))), some (.r st.length), some (.d (.int (0 + (i : Nat)))), x6] (st ++ [.lst (stL ls (fI r m) i)]) =
    .nx [some (.d (.tuple (ls.map .int))), some (.d (.int s)), some (.d (.int (m : Int))), some (.d (.int (r : Int))), some (.r st.length), some (.d (.int (0 + (i : Nat)))), some (.d (.int (fI r m i)))] (st ++ [.lst (stL ls (fI r m) (i + 1))]) := by
  have e1 : (st ++ [Ob.lst (stL ls (fI r m) i)])[st.length]? = some (.lst (stL ls (fI r m) i)) := by simp
  have hm0 : 0 < m := by omega
  have hm1 : (m : Int) < 1073741824 := by omega
  have last : atD (stL ls (fI r m) i) (-1) = some (.int (sp ls (fI r m) i)) := atD_last _ _
  have at' := get_map (ls := ls) (k := i) (by omega)
  have ef := fI_eq r m i
  have hl : (stL ls (fI r m) i).length < 1000000 := by rw [stL_len]; omega
  unfold d_spread_by_l1
  rw [stL_succ]
  simp [hm0, hm1, ef, isLst_l e1, look1_l e1, last, at', appW_l e1 hl, sp]
theorem new1 (x : PyData) (st : Sto) : newW [.d x] st = .ok (.r st.length) (st ++ [.lst [x]]) := by simp [newW]
theorem r_spread_by {ls : List Int} {m r : Nat} (hm : ls.length = m + 1) (hm2 : m < 1000) {s : Int} (hs : s - ls.sum = (r : Int)) (st : Sto) : m_spread_by [.d (.tuple (ls.map .int)), .d (.int s)] st = .ok (.d (.tuple (stL ls (fI r m) m))) st := by
  obtain ⟨env, st', e1, x5, x6, rfl, rfl⟩ := forL_goI (g := gN 5) (b := d_spread_by_l1) (fun k env st' => ∃ x5 x6 : Option Wv, env = [some (.d (.tuple (ls.map .int))), some (.d (.int s)), some (.d (.int (m : Int))), some (.d (.int (r : Int))), some (.r st.length), x5, x6] ∧ st' = st ++ [.lst (stL ls (fI r m) k)]) (rangeD 0 m) 0 (fun i x hx env st' hI => by
    obtain ⟨hi, rfl⟩ := rangeD_get hx
    rw [Nat.zero_add] at hI ⊢
    obtain ⟨x5, x6, rfl, rfl⟩ := hI
    exact ⟨_, _, _, rfl, sb_turn hm hm2 s hi x5 x6 st, ⟨_, _, rfl, rfl⟩⟩) [some (.d (.tuple (ls.map .int))), some (.d (.int s)), some (.d (.int (m : Int))), some (.d (.int (r : Int))), some (.r st.length), none, none] (st ++ [.lst [.int 0]]) ⟨none, none, rfl, rfl⟩
  rw [rangeD_len, Nat.zero_add] at e1
  have e2 : (st ++ [Ob.lst (stL ls (fI r m) m)])[st.length]? = some (.lst (stL ls (fI r m) m)) := by simp
  have hl : (ls.length : Int) - 1 = m := by omega
  have rg := fun st => rg1_ok (i := (m : Int)) st (by omega) (by omega)
  unfold m_spread_by d_spread_by
  simp -implicitDefEqProofs [hl, r_rest, hs, new1, rg, e1, looks, look_l e2]
theorem r_spread {ls : List Int} (L : Lg ls) {m r : Nat} (hm : ls.length = m + 1) {s a b : Int} (hs : 1 ≤ s ∧ s ≤ 80) (J : 0 ≤ a ∧ a ≤ b ∧ b ≤ 9) (hr : fitB ls s a b = true → s - ls.sum = (r : Int)) (st : Sto) : m_spread [.d (.tuple (ls.map .int)), .d (.int s), .d (.tuple [.int a, .int b])] st = .ok (.d (if fitB ls s a b = true then .tuple (stL ls (fI r m) m) else .none)) st := by
  have n1 := L.n
  unfold m_spread d_spread
  cases f : fitB ls s a b
  · simp -implicitDefEqProofs [r_need_all L hs J, r_fit L, f]
  · simp -implicitDefEqProofs [r_need_all L hs J, r_fit L, f, r_spread_by hm (by omega) (hr f)]

def sumF' (f : Nat → Nat) : Nat → Nat
  | 0 => 0
  | k + 1 => sumF' f k + f k
theorem sumF'_add (f g : Nat → Nat) : ∀ k, (∀ i < k, True) → sumF' (fun i => f i + g i) k = sumF' f k + sumF' g k
  | 0, _ => rfl
  | k + 1, _ => by simp only [sumF']; rw [sumF'_add f g k (fun _ _ => trivial)]; omega
theorem sumF'_congr {f g : Nat → Nat} : ∀ k, (∀ i, i < k → f i = g i) → sumF' f k = sumF' g k
  | 0, _ => rfl
  | k + 1, h => by simp only [sumF']; rw [sumF'_congr k (fun i hi => h i (by omega)), h k (by omega)]
theorem sumF'_one (j : Nat) : ∀ k, sumF' (fun i => if i = j then 1 else 0) k = if j < k then 1 else 0
  | 0 => by simp [sumF']
  | k + 1 => by
    simp only [sumF']
    rw [sumF'_one j k]
    by_cases h : k = j
    · subst h; simp
    · rw [if_neg h]
      by_cases q : j < k
      · rw [if_pos q, if_pos (by omega)]
      · rw [if_neg q, if_neg (by omega)]
theorem sumF'_zero : ∀ k, sumF' (fun _ => 0) k = 0
  | 0 => rfl
  | k + 1 => by simp only [sumF']; rw [sumF'_zero k]
theorem fN_sum {m : Nat} (hm : 0 < m) : ∀ t, sumF' (fN t m) m = t
  | 0 => by
    rw [sumF'_congr (g := fun _ => 0) m (fun i hi => by simp [fN]), sumF'_zero]
  | t + 1 => by
    rw [sumF'_congr (g := fun i => fN t m i + if i = t % m then 1 else 0) m (fun i hi => fN_succ hi), sumF'_add _ _ _ (fun _ _ => trivial), fN_sum hm t, sumF'_one, if_pos (Nat.mod_lt _ hm)]
theorem sp_eq {ls : List Int} {r m : Nat} : ∀ k, k ≤ ls.length → sp ls (fI r m) k = (ls.take k).sum + (sumF' (fN r m) k : Nat)
  | 0, _ => by simp [sp, sumF']
  | k + 1, h => by
    have := sp_eq (ls := ls) (r := r) (m := m) k (by omega)
    rw [sp, this, List.take_add_one, List.sum_append, sumF']
    have q : k < ls.length := by omega
    simp [q, fI]
    omega
theorem sp_end {ls : List Int} {r m : Nat} (hm : ls.length = m + 1) (hz : m = 0 → r = 0) : sp ls (fI r m) m + (ls[m]?).getD 0 = ls.sum + r := by
  rw [sp_eq m (by omega)]
  have e : ls.sum = (ls.take m).sum + (ls[m]?).getD 0 := by
    have q : m < ls.length := by omega
    have := List.take_append_drop m ls
    conv => lhs; rw [← this, List.sum_append]
    have : ls.drop m = [ls[m]] := by rw [List.drop_eq_getElem_cons q, List.drop_eq_nil_of_le (by omega)]
    rw [this]
    simp [q]
  have e2 : sumF' (fN r m) m = r := by
    by_cases q : 0 < m
    · exact fN_sum q r
    · have : m = 0 := by omega
      subst this
      simp [sumF', hz rfl]
  rw [e2, e]
  omega
theorem fI_in {m r i : Nat} (hm : 0 < m) {a b : Int} (ha : 0 ≤ a) (h1 : (m : Int) * a ≤ r) (h2 : (r : Int) ≤ m * b) : a ≤ fI r m i ∧ fI r m i ≤ b := by
  obtain ⟨a', rfl⟩ := Int.eq_ofNat_of_zero_le ha
  have hb : 0 ≤ b := by
    rcases Int.lt_or_le b 0 with h | h
    · have : (m : Int) * b < 0 := Int.mul_neg_of_pos_of_neg (by omega) h
      omega
    · exact h
  obtain ⟨b', rfl⟩ := Int.eq_ofNat_of_zero_le hb
  have h1' : m * a' ≤ r := by exact_mod_cast h1
  have h2' : r ≤ m * b' := by exact_mod_cast h2
  have q1 : a' ≤ r / m := (Nat.le_div_iff_mul_le hm).mpr (by rw [Nat.mul_comm]; exact h1')
  have q2 : r / m ≤ b' := by
    have := Nat.div_le_div_right (c := m) h2'
    rwa [Nat.mul_div_cancel_left _ hm] at this
  unfold fI fN
  by_cases q : i < r % m
  · have : r / m < b' := by
      rw [Nat.div_lt_iff_lt_mul hm]
      have e := Nat.div_add_mod r m
      rcases Nat.lt_or_ge r (b' * m) with h | h
      · exact h
      · have hh : r = m * b' := by rw [Nat.mul_comm] at h; omega
        rw [hh, Nat.mul_mod_right] at q
        omega
    rw [if_pos q]
    omega
  · rw [if_neg q]
    omega
end

section
variable [Tbl]
/-! ## layings by number -/
theorem S_nn {f : Int → Int} (h : ∀ x, 0 ≤ f x) (lo : Int) : ∀ n, 0 ≤ S f lo n
  | 0 => Int.le_refl _
  | n + 1 => by
    show 0 ≤ S f lo n + f _
    have := S_nn h lo n
    have := h (lo + (n : Nat))
    omega
theorem S_mono {f g : Int → Int} (h : ∀ x, f x ≤ g x) (lo : Int) : ∀ n, S f lo n ≤ S g lo n
  | 0 => Int.le_refl _
  | n + 1 => by
    show S f lo n + f _ ≤ S g lo n + g _
    have := S_mono h lo n
    have := h (lo + (n : Nat))
    omega
theorem S_pos {f : Int → Int} (h : ∀ x, 0 ≤ f x) (lo : Int) : ∀ n, 0 < S f lo n ↔ ∃ i, i < n ∧ 0 < f (lo + (i : Nat))
  | 0 => ⟨fun q => absurd q (by show ¬ (0 : Int) < 0; omega), fun ⟨i, q, _⟩ => by omega⟩
  | n + 1 => by
    show 0 < S f lo n + f (lo + (n : Nat)) ↔ _
    have ih := S_pos h lo n
    have h1 := S_nn h lo n
    have h2 := h (lo + (n : Nat))
    constructor
    · intro q
      by_cases z : 0 < S f lo n
      · obtain ⟨i, a, b⟩ := ih.mp z
        exact ⟨i, by omega, b⟩
      · exact ⟨n, by omega, by omega⟩
    · rintro ⟨i, a, b⟩
      by_cases z : i = n
      · subst z; omega
      · have := ih.mpr ⟨i, by omega, b⟩
        omega
theorem cnt_nn (b : Int) (m : Nat) : ∀ k r, 0 ≤ cnt b m k r
  | 0, r => by show (0 : Int) ≤ if r = 0 then 1 else 0; split <;> omega
  | k + 1, r => S_nn (cnt_nn b m k) _ m
theorem cnt_pos {a b : Int} {m : Nat} (hab : a ≤ b) (hm : (m : Int) = b - a + 1) : ∀ (k : Nat) (r : Int), 0 < cnt b m k r ↔ (k : Int) * a ≤ r ∧ r ≤ (k : Int) * b
  | 0, r => by
    show (0 : Int) < (if r = 0 then 1 else 0) ↔ _
    split <;> omega
  | k + 1, r => by
    show 0 < S (cnt b m k) (r - b) m ↔ _
    rw [S_pos (cnt_nn b m k)]
    have e1 : ((k + 1 : Nat) : Int) * a = (k : Int) * a + a := by rw [Int.natCast_add, Int.add_mul]; omega
    have e2 : ((k + 1 : Nat) : Int) * b = (k : Int) * b + b := by rw [Int.natCast_add, Int.add_mul]; omega
    have e3 : (k : Int) * a ≤ (k : Int) * b := Int.mul_le_mul_of_nonneg_left hab (by omega)
    rw [e1, e2]
    constructor
    · rintro ⟨i, hi, h⟩
      have := (cnt_pos hab hm k _).mp h
      omega
    · intro ⟨h1, h2⟩
      -- j = joint used: between a and b with k a ≤ r - j ≤ k b
      obtain ⟨j, j1, j2, j3, j4⟩ : ∃ j : Int, a ≤ j ∧ j ≤ b ∧ (k : Int) * a ≤ r - j ∧ r - j ≤ (k : Int) * b := by
        generalize (k : Int) * a = A at *
        generalize (k : Int) * b = B at *
        by_cases q : r - a ≤ B
        · exact ⟨a, by omega, by omega, by omega, by omega⟩
        · exact ⟨r - B, by omega, by omega, by omega, by omega⟩
      refine ⟨(b - j).toNat, by omega, (cnt_pos hab hm k _).mpr ?_⟩
      rw [show r - b + ((b - j).toNat : Int) = r - j by omega]
      exact ⟨j3, j4⟩
theorem cnt_wide {b : Int} {m : Nat} : ∀ (k : Nat) (r : Int), cnt b m k r ≤ cnt (b + 1) (m + 1) k r
  | 0, r => Int.le_refl _
  | k + 1, r => by
    show S (cnt b m k) (r - b) m ≤ S (cnt (b + 1) (m + 1) k) (r - (b + 1)) (m + 1)
    have h1 := S_mono (cnt_wide (b := b) (m := m) k) (r - b) m
    have h2 := S_app (cnt (b + 1) (m + 1) k) (r - (b + 1)) 1 m
    rw [Nat.add_comm 1 m, show r - (b + 1) + ((1 : Nat) : Int) = r - b by omega] at h2
    have h3 := S_nn (cnt_nn (b + 1) (m + 1) k) (r - (b + 1)) 1
    omega
theorem many_fit {ls : List Int} (L : Lg ls) {s a b : Int} {m : Nat} (hab : a ≤ b) (hm : (m : Int) = b - a + 1) : decide (0 < manyW ls s b m) = fitB ls s a b := by
  have hn := L.n
  unfold manyW fitB
  rw [Bool.eq_iff_iff, decide_eq_true_iff, cnt_pos hab hm, Bool.and_eq_true, decide_eq_true_iff, decide_eq_true_iff, show ((ls.length - 1 : Nat) : Int) = (ls.length : Int) - 1 by omega]
/-! ## the even laying is one -/
def lgAt (ls : List Int) (j : Nat) : Int := (ls[j]?).getD 0
theorem chk_sp {ls : List Int} {f : Nat → Int} {a b : Int} {m : Nat} (hm : ls.length = m + 1) (hf : ∀ i, i < m → a ≤ f i ∧ f i ≤ b) : ∀ (c j : Nat), j + c = m →
    chk a b (some (sp ls f j + lgAt ls j)) ((List.range' (j + 1) c).map fun i => PyData.int (sp ls f i)) (ls.drop (j + 1)) = some (some (sp ls f m + lgAt ls m))
  | 0, j, h => by
    rw [show j = m by omega, List.drop_eq_nil_of_le (by omega)]; rfl
  | c + 1, j, h => by
    have q : j + 1 < ls.length := by omega
    rw [List.range'_succ, List.map_cons, List.drop_eq_getElem_cons q]
    unfold chk
    dsimp only
    have e : sp ls f (j + 1) = sp ls f j + lgAt ls j + f j := rfl
    have hfj := hf j (by omega)
    rw [show stepOk a b (some (sp ls f j + lgAt ls j)) (sp ls f (j + 1)) = true by
      show (decide (sp ls f j + lgAt ls j + a ≤ sp ls f (j + 1)) && decide (sp ls f (j + 1) ≤ sp ls f j + lgAt ls j + b)) = true
      rw [Bool.and_eq_true, decide_eq_true_iff, decide_eq_true_iff]; omega, if_pos rfl]
    have el : ls[j + 1] = lgAt ls (j + 1) := by unfold lgAt; rw [List.getElem?_eq_getElem q]; rfl
    rw [el]
    exact chk_sp hm hf c (j + 1) (by omega)
theorem even_laid {ls : List Int} (L : Lg ls) {m r : Nat} (hm : ls.length = m + 1) {s a b : Int} (ha : 0 ≤ a) (hr : s - ls.sum = (r : Int)) (h : fitB ls s a b = true) : laidB a b s ls (.tuple (stL ls (fI r m) m)) = true := by
  unfold fitB at h
  rw [Bool.and_eq_true, decide_eq_true_iff, decide_eq_true_iff, show (ls.length : Int) - 1 = (m : Int) by omega, hr] at h
  have hf : ∀ i, i < m → a ≤ fI r m i ∧ fI r m i ≤ b := fun i hi => fI_in (by omega) ha h.1 h.2
  have st : stL ls (fI r m) m = (List.range' 0 (m + 1)).map fun i => PyData.int (sp ls (fI r m) i) := by
    unfold stL
    rw [← List.range_eq_range', List.range_succ, List.map_append]; rfl
  unfold laidB
  dsimp only
  rw [stL_len, decide_eq_true hm.symm, Bool.true_and, st, List.range'_succ, List.map_cons]
  have q0 : 0 < ls.length := by omega
  have e0 : ls = lgAt ls 0 :: ls.drop 1 := by
    have := List.drop_eq_getElem_cons q0
    rw [List.drop_zero] at this
    rw [this]; rfl
  have key : chk a b none (PyData.int (sp ls (fI r m) 0) :: (List.range' (0 + 1) m).map fun i => PyData.int (sp ls (fI r m) i)) ls = some (some (sp ls (fI r m) m + lgAt ls m)) := by
    have c0 := chk_sp (a := a) (b := b) hm hf m 0 (by omega)
    generalize hX : (List.range' (0 + 1) m).map (fun i => PyData.int (sp ls (fI r m) i)) = X at *
    rw [show (chk a b none (PyData.int (sp ls (fI r m) 0) :: X) ls) = chk a b none (PyData.int (sp ls (fI r m) 0) :: X) (lgAt ls 0 :: ls.drop 1) from by rw [← e0]]
    unfold chk
    dsimp only
    rw [show stepOk a b none (sp ls (fI r m) 0) = true from rfl, if_pos rfl]
    exact c0
  rw [key]
  have se := sp_end (ls := ls) (r := r) hm (fun hz => by
    subst hz
    have h1 := h.1
    have h2 := h.2
    omega)
  show (sp ls (fI r m) m + lgAt ls m == s) = true
  rw [beq_iff_eq]
  unfold lgAt
  omega
theorem r_tight {ls : List Int} (L : Lg ls) {s a b : Int} (hs : 1 ≤ s ∧ s ≤ 80) (J : 0 ≤ a ∧ a ≤ b ∧ b ≤ 9) (st : Sto) : ∃ d, m_tight [(.d (.tuple ((ls).map .int))), (.d (.int (s))), .d (.tuple [.int a, .int b])] st = .ok (.d d) st ∧ isNone d = !fitB ls s a b := by
  have hn := L.n
  have ba : ∀ i, bigOk ((ls.length : Int) - 1) i = true := fun i => big_l (by omega) (by omega)
  have e0 := fun st => r_need_all L hs J st
  have e1 := fun st => r_fit L s a b st
  have e2 := fun st => r_rest (ls := ls) s st
  have hl : lenF [.tuple (ls.map .int)] = some (.int (ls.length : Int)) := by simp
  cases hf : fitB ls s a b with
  | false =>
    rw [hf] at e1
    refine ⟨.none, ?_, rfl⟩
    generalize ls.map PyData.int = LS at *
    unfold m_tight d_tight
    simp -implicitDefEqProofs [e0, e1]
  | true =>
    rw [hf] at e1
    refine ⟨.tuple [.int (((ls.length : Int) - 1) * b - (s - ls.sum)), .int (s - ls.sum - ((ls.length : Int) - 1) * a)], ?_, rfl⟩
    generalize ls.map PyData.int = LS at *
    generalize (ls.length : Int) = N at *
    generalize s - ls.sum = R at *
    unfold m_tight d_tight
    simp -implicitDefEqProofs [e0, e1, e2, hl, ba, tupW]
theorem Ct.zip : ∀ {ls g : List Int}, Ct ls g → ∀ p ∈ ls.zip g, 1 ≤ p.2 ∧ p.2 ≤ p.1
  | [], [], _, p, hp => by cases hp
  | x :: ls, y :: g, h, p, hp => by
    rw [List.zip_cons_cons] at hp
    rcases List.mem_cons.mp hp with rfl | hp
    · exact h.1
    · exact Ct.zip h.2 p hp
  | [], _ :: _, h, _, _ => h.elim
  | _ :: _, [], h, _, _ => h.elim
end

section
variable [Tbl]
theorem cutG_0' : ∀ {ls : List Int}, cutG ls 0 0 = ls
  | [] => rfl
  | x :: ls => by rw [cutG_cons, if_pos (by rw [mo_zero]; exact Int.le_refl _), cutG_0']
theorem cut_fit' {ls : List Int} (L : Lo ls) {s a b : Int} (h : fitB ls s a b = true) : cutT ls s a b = some ls := by
  unfold fitB at h
  rw [Bool.and_eq_true, decide_eq_true_iff, decide_eq_true_iff] at h
  have ho : offI ls s a = 0 := by unfold offI; rw [if_neg (by omega)]
  have hf : few ls 0 = 0 := few_eq (by rw [mo_zero]; exact Int.le_refl _) (fun d hd => absurd hd (Nat.not_lt_zero _)) (Nat.zero_le _)
  have h0 := mo_nonneg L.b ls.length
  unfold cutT
  rw [ho, if_neg (by omega), hf, cutG_0']
theorem many_wide {ls : List Int} {s a b : Int} {m m2 : Nat} (hm : (m : Int) = b - a + 1) {b2 : Int} (hb : b2 = b ∨ b2 = b + 1) (hm2 : (m2 : Int) = b2 - a + 1) (J : a ≤ b) : manyW ls s b m ≤ manyW ls s b2 m2 := by
  unfold manyW
  rcases hb with rfl | rfl
  · rw [show m2 = m by omega]; exact Int.le_refl _
  · rw [show m2 = m + 1 by omega]; exact cnt_wide _ _
theorem ne_t (g : List Int) : neD (.tuple (g.map .int)) (.tuple (g.map .int)) = some (.bool false) := by
  have := q_ne (⟨g⟩ : PySem.W.Tup Int) ⟨g⟩
  rw [decide_eq_true rfl] at this
  exact this
theorem r_one_right {ls : List Int} (L : Lg ls) {s a b : Int} (hs : 1 ≤ s ∧ s ≤ 80) (J : 0 ≤ a ∧ a ≤ b ∧ b ≤ 9) (st : Sto) : m__law_one_right [(.d (.tuple ((ls).map .int))), (.d (.int (s))), .d (.tuple [.int a, .int b])] st = .ok (.d (.bool true)) st := by
  have hn := L.n
  obtain ⟨m, hm⟩ : ∃ m : Nat, (m : Int) = b - a + 1 := ⟨(b - a + 1).toNat, by omega⟩
  obtain ⟨mm, hmm⟩ : ∃ mm, ls.length = mm + 1 := ⟨ls.length - 1, by omega⟩
  have e1 := fun st => r_fits L hs J st
  have e2 := fun st => r_layings_many L hs J hm st
  have hp := many_fit L (s := s) J.2.1 hm
  obtain ⟨T, e3, hT⟩ := r_tight L hs J st
  obtain ⟨b2, hb2⟩ : ∃ b2 : Int, (if b + 1 < 9 then b + 1 else 9) = b2 := ⟨_, rfl⟩
  have hb : b2 = b ∨ b2 = b + 1 := by rw [← hb2]; split <;> omega
  have J2 : 0 ≤ a ∧ a ≤ b2 ∧ b2 ≤ 9 := by rw [← hb2]; split <;> omega
  obtain ⟨m2, hm2⟩ : ∃ m2 : Nat, (m2 : Int) = b2 - a + 1 := ⟨(b2 - a + 1).toNat, by omega⟩
  have e5 := fun st => r_layings_many L hs J2 hm2 st
  have hw := many_wide (ls := ls) (s := s) hm hb hm2 J.2.1
  have hw' : ¬ manyW ls s b2 m2 < manyW ls s b m := by omega
  have e6 := fun st => r_cut_to L hs J st
  have gt : gtD (.int (manyW ls s b m)) (.int 0) = some (.bool (fitB ls s a b)) := by rw [← hp]; rfl
  have nb : ∀ v : Bool, neD (.bool v) (.bool v) = some (.bool false) := fun v => by cases v <;> rfl
  have nt : ntND T .none = some (.bool (fitB ls s a b)) := by
    show some (PyData.bool (!isNone T)) = _
    rw [hT, Bool.not_not]
  obtain ⟨r, hr⟩ : ∃ r : Nat, fitB ls s a b = true → s - ls.sum = (r : Int) := ⟨(s - ls.sum).toNat, fun h => by
    unfold fitB at h
    rw [Bool.and_eq_true, decide_eq_true_iff, decide_eq_true_iff] at h
    have : 0 ≤ ((ls.length : Int) - 1) * a := Int.mul_nonneg (by omega) J.1
    omega⟩
  have e4 := fun st => r_spread L hmm hs J hr st
  have hlN : lenF [.tuple (ls.map .int)] = some (.int (ls.length : Int)) := by simp
  have nbF := nb (fitB ls s a b)
  cases hc : cutT ls s a b with
  | none =>
    rw [hc, show cutD' none = .none from rfl] at e6
    have hF : fitB ls s a b = false := by
      cases h : fitB ls s a b with
      | false => rfl
      | true => rw [cut_fit' L.lo h] at hc; cases hc
    rw [hF] at e1 gt hT nbF
    simp only [Bool.not_false, Bool.not_true] at hT
    simp only [hF, Bool.false_eq_true, if_false] at e4
    generalize manyW ls s b m = M1 at *
    generalize manyW ls s b2 m2 = M2 at *
    generalize ls.map PyData.int = LS at *
    unfold m__law_one_right d__law_one_right
    simp -implicitDefEqProofs [-o_gt_i, e1, e2, gt, nbF, e3, hT, e4, tupW, hb2, e5, hw', e6]
  | some g =>
    rw [hc, show cutD' (some g) = .tuple (g.map .int) from rfl] at e6
    obtain ⟨h1, h2, _⟩ := cutT_some L.lo s a b ⟨J.1, J.2.1⟩ hn.1 hc
    have LG := h1.lg L
    have e7 := fun st => r_fits LG hs J st
    rw [h2] at e7
    have e8 := fun st => r_cut_to LG hs J st
    rw [cut_fit' LG.lo h2, show cutD' (some g) = .tuple (g.map .int) from rfl] at e8
    have ng := ne_t g
    have hlG : lenF [.tuple (g.map .int)] = some (.int (ls.length : Int)) := by
      have := h1.len
      simp [this]
    have eqL : eqD (.int (ls.length : Int)) (.int (ls.length : Int)) = some (.bool true) := by rw [o_eq_i]; simp
    have zp : ∀ st, zip2W [(.d (.tuple ((ls).map .int))), (.d (.tuple ((g).map .int)))] st = .ok ⟨(ls.zip g).map encP, []⟩ st := fun st => by rw [← zip_enc]; rfl
    have lc := fun v3 => lcL_mapE (g := gTp (gCn (gN 8) (gCn (gN 9) gNl))) (c := eChain leD leD (eK (.int 1)) (eVar 9) (eVar 8)) (env := [some (.d (.tuple ((ls).map .int))), some (.d (.int (s))), some (.d (.tuple [.int a, .int b])), some (.d (.bool v3)), some (.d (if v3 = true then .tuple (stL ls (fI r mm) mm) else .none)), some (.d (.tuple [.int a, .int b2])), some (.d (.tuple ((g).map .int))), none, none, none]) (st := st) encP (fun _ => .bool true) (ls.zip g) [] fun p hp => ⟨_, rfl, by
      have := h1.zip p hp
      obtain ⟨i, j⟩ := p
      simp -implicitDefEqProofs [encP, this]⟩
    simp only [List.nil_append] at lc
    have al := o_all' (ls.zip g) fun _ => true
    rw [show (ls.zip g).all (fun _ => true) = true by simp] at al
    have h3 : ((ls.zip g).map encP).length ≤ 1000000 := by rw [List.length_map, List.length_zip]; omega
    cases hF : fitB ls s a b with
    | false =>
      have lc := lc false
      simp only [Bool.false_eq_true, if_false] at lc
      rw [hF] at e1 gt hT nbF
      simp only [Bool.not_false, Bool.not_true] at hT
      simp only [hF, Bool.false_eq_true, if_false] at e4
      generalize ((ls.zip g).map fun _ => PyData.bool true) = TT at *
      generalize (ls.zip g).map encP = ZP at *
      generalize manyW ls s b m = M1 at *
      generalize manyW ls s b2 m2 = M2 at *
      generalize (ls.length : Int) = N at *
      generalize g.map PyData.int = GS at *
      generalize ls.map PyData.int = LS at *
      unfold m__law_one_right d__law_one_right
      simp -implicitDefEqProofs [-o_gt_i, -o_eq_i, e1, e2, gt, nbF, e3, hT, e4, tupW, hb2, e5, hw', e6, e7, e8, ng, hlN, hlG, eqL, zp, wipeE, h3, lc, al]
    | true =>
      have lc := lc true
      simp only [if_true] at lc
      have e9 := fun st => r_is_laying (a := a) (b := b) L hs J (.tuple (stL ls (fI r mm) mm)) st
      rw [even_laid L hmm J.1 (hr hF) hF] at e9
      have hgl : g = ls := by rw [cut_fit' L.lo hF] at hc; exact (Option.some.inj hc).symm
      subst hgl
      rw [hF] at e1 gt hT nbF
      simp only [Bool.not_false, Bool.not_true] at hT
      simp only [hF, if_true] at e4
      generalize ((g.zip g).map fun _ => PyData.bool true) = TT at *
      generalize (g.zip g).map encP = ZP at *
      generalize stL g (fI r mm) mm = SL at *
      generalize manyW g s b m = M1 at *
      generalize manyW g s b2 m2 = M2 at *
      generalize (g.length : Int) = N at *
      generalize g.map PyData.int = GS at *
      unfold m__law_one_right d__law_one_right
      simp -implicitDefEqProofs [-o_gt_i, -o_eq_i, e1, e2, gt, nbF, e3, hT, e4, e9, tupW, hb2, e5, hw', e6, e7, e8, ng, hlN, hlG, eqL, zp, wipeE, h3, lc, al]
end

section
variable [Tbl]
open PySem.W (Datum DatumOrd Tup minOf maxOf listLt)
def eL (o : List Int) : PyData := .tuple (o.map .int)
/-- the runs of a parting -/
def runsL (ls : List Int) : Nat → List Int → List (List Int)
  | _, [] => []
  | d, m :: l => sl ls d (d + m.toNat) :: runsL ls (d + m.toNat) l
theorem runsL_len (ls : List Int) : ∀ (l : List Int) (d : Nat), (runsL ls d l).length = l.length
  | [], _ => rfl
  | _ :: l, d => by show (runsL ls _ l).length + 1 = _; rw [runsL_len ls l]; rfl
theorem lr_loop (ls : List Int) (v1 : Option Wv) (st : Sto) : ∀ (l : List Int) (d : Nat) (F : List PyData), vl ls.length d l → F.length + l.length ≤ 1000 →
    ∃ d' : Nat, forL (gN 4) d__law_runs_l1 [] (l.map .int) [some (.d (.tuple ((ls).map .int))), v1, some (.r st.length), some (.d (.int ((d : Int)))), none] (st ++ [.lst F]) = .nx [some (.d (.tuple ((ls).map .int))), v1, some (.r st.length), some (.d (.int ((d' : Int)))), none] (st ++ [.lst (F ++ (runsL ls d l).map eL)])
  | [], d, F, _, _ => ⟨d, by simp [runsL]⟩
  | m :: l, d, F, h, hl => by
    obtain ⟨h1, h2, h3, h4⟩ := h
    obtain ⟨m, rfl⟩ := Int.eq_ofNat_of_zero_le (show 0 ≤ m by omega)
    rw [Int.toNat_natCast] at h3 h4
    rw [List.length_cons] at hl
    obtain ⟨d', lp⟩ := lr_loop ls v1 st l (d + m) (F ++ [eL (sl ls d (d + m))]) h4 (by simp; omega)
    refine ⟨d', ?_⟩
    have g := get_mid st [] (Ob.lst F)
    have il := isLst_l g
    have ap := appW_l g (by omega) (eL (sl ls d (d + m)))
    rw [set_mid] at ap
    have cu := cut_sl ls d (d + m)
    rw [Int.natCast_add d m] at cu
    have t : d__law_runs_l1 [some (.d (.tuple ((ls).map .int))), v1, some (.r st.length), some (.d (.int ((d : Int)))), some (.d (.int ((m : Int))))] (st ++ [.lst F]) = .nx [some (.d (.tuple ((ls).map .int))), v1, some (.r st.length), some (.d (.int (((d + m : Nat) : Int)))), none] (st ++ [.lst (F ++ [eL (sl ls d (d + m))])]) := by
      have dm : ((d + m : Nat) : Int) = (d : Int) + (m : Int) := by omega
      rw [dm]
      rw [show eL (sl ls d (d + m)) = .tuple ((sl ls d (d + m)).map .int) from rfl] at *
      generalize (sl ls d (d + m)).map PyData.int = SLD at *
      generalize ls.map PyData.int = LS at *
      generalize (d : Int) = D at *
      generalize (m : Int) = M at *
      generalize st ++ [Ob.lst (F ++ [PyData.tuple SLD])] = S2 at *
      generalize st ++ [Ob.lst F] = S1 at *
      unfold d__law_runs_l1
      simp -implicitDefEqProofs [cu, il, ap]
    have gn : gN 4 (.d (.int (m : Int))) [some (.d (.tuple ((ls).map .int))), v1, some (.r st.length), some (.d (.int ((d : Int)))), none] = some [some (.d (.tuple ((ls).map .int))), v1, some (.r st.length), some (.d (.int ((d : Int)))), some (.d (.int ((m : Int))))] := rfl
    rw [List.map_cons, forL_cons, gn]
    dsimp only
    rw [t]
    rw [show F ++ (runsL ls d ((m : Int) :: l)).map eL = F ++ [eL (sl ls d (d + m))] ++ (runsL ls (d + m) l).map eL by
      show F ++ (sl ls d (d + ((m : Int)).toNat) :: runsL ls (d + ((m : Int)).toNat) l).map eL = _
      rw [Int.toNat_natCast, List.map_cons]; simp]
    exact lp
theorem r_law_runs {ls l : List Int} (h : vl ls.length 0 l) (hl : l.length ≤ 1000) (st : Sto) : m__law_runs [(.d (.tuple ((ls).map .int))), (.d (.tuple ((l).map .int)))] st = .ok (.d (.list ((runsL ls 0 l).map eL))) st := by
  obtain ⟨d', lp⟩ := lr_loop ls (some (.d (.tuple ((l).map .int)))) st l 0 [] h (by simp; omega)
  rw [List.nil_append, show ((0 : Nat) : Int) = 0 from rfl] at lp
  have ef := x_end_fr (Nat.le_refl st.length) (get_mid st [] (.lst ((runsL ls 0 l).map eL)))
  have nw : newW [] st = .ok (.r st.length) (st ++ [.lst []]) := rfl
  generalize (runsL ls 0 l).map eL = R at *
  generalize ls.map PyData.int = LS at *
  generalize l.map PyData.int = LL at *
  generalize st ++ [Ob.lst []] = S0 at *
  generalize (d' : Int) = DD at *
  unfold m__law_runs d__law_runs
  simp -implicitDefEqProofs [nw, srcW_dt, lp, ef, -forL_cons]
theorem r_law_cuts {ls : List Int} (h : ls.length ≤ 1000) (g : List Int) (st : Sto) : m__law_cuts [(.d (.tuple ((ls).map .int))), (.d (.tuple ((g).map .int)))] st = .ok (.d (.int (((nc ls g : Nat) : Int)))) st := by
  have e1 := lcL_filterE (g := gTp (gCn (gN 3) (gCn (gN 4) gNl))) (t := tBl (eOp2 neD (eVar 3) (eVar 4))) (c := eK (.int 1)) (env := [some (.d (.tuple ((ls).map .int))), some (.d (.tuple ((g).map .int))), none, none, none]) (st := st) encP (fun _ => .int 1) (fun p => !(p.1 == p.2)) (ls.zip g) [] fun p _ => ⟨_, rfl, by
    obtain ⟨i, j⟩ := p
    simp -implicitDefEqProofs [encP], fun _ => by simp⟩
  rw [List.nil_append] at e1
  have zp : ∀ st, zip2W [(.d (.tuple ((ls).map .int))), (.d (.tuple ((g).map .int)))] st = .ok ⟨(ls.zip g).map encP, []⟩ st := fun st => by rw [← zip_enc]; rfl
  have h3 : ((ls.zip g).map encP).length ≤ 1000000 := by rw [List.length_map, List.length_zip]; omega
  have l1 : lenF [.list (((ls.zip g).filter fun p => !(p.1 == p.2)).map fun _ => PyData.int 1)] = some (.int (nc ls g : Nat)) := by rw [← nc_zip]; simp
  generalize ((nc ls g : Nat) : Int) = N at *
  generalize (((ls.zip g).filter fun p => !(p.1 == p.2)).map fun _ => PyData.int 1) = ZF at *
  generalize (ls.zip g).map encP = ZP at *
  generalize ls.map PyData.int = LS at *
  generalize g.map PyData.int = SS at *
  unfold m__law_cuts d__law_cuts
  simp -implicitDefEqProofs [zp, wipeE, h3, e1, l1]
/-! ## the program's levels, looked at -/
theorem r_is_told_r {L : List (List Nat)} (hL : L.length ≤ 100) (hl : ∀ l ∈ L, l.length ≤ 1000) {p n : Nat} {st : Sto} (hp : st[p]? = some (.lst (L.map eT))) (hg : st[n]? = some (.lst (L.map eT))) : m_is_told [.r p, .r n] st = .ok (.d (.bool true)) st := by
  have lkp := looks_l1 hp
  have lkg := looks_l1 hg
  have lp1 := look1_l hp
  have z2 : zip2W [.r p, .r n] st = .ok ⟨List.zipWith pairD (L.map eT) (L.map eT), [(p, L.map eT), (n, L.map eT)]⟩ st := by
    have e1 : seqW (.r p) st = some ⟨L.map eT, [(p, L.map eT)]⟩ := by unfold seqW; dsimp only; rw [hp]
    have e2 : seqW (.r n) st = some ⟨L.map eT, [(n, L.map eT)]⟩ := by unfold seqW; dsimp only; rw [hg]
    unfold zip2W
    simp [e1, e2]
  have hz : List.zipWith pairD (L.map eT) (L.map eT) = L.map fun l => PyData.tuple [eT l, eT l] := by
    rw [List.zipWith_map, List.zipWith_self]; rfl
  have lv : lvOk [(p, L.map eT), (n, L.map eT)] st := by
    intro q hq
    rcases List.mem_cons.mp hq with rfl | hq
    · exact hp
    · rw [List.mem_singleton.mp hq]; exact hg
  have lp := forL_seekL (g := gTp (gCn (gN 2) (gCn (gN 3) gNl))) (b := d_is_told_l1) (env := [some (.r p), some (.r n), none, none, none, none]) (st := st) lv (fun l => PyData.tuple [eT l, eT l]) (fun _ => none) L fun l hm => ⟨_, rfl, by
    have h := it_1 (x := eT l) (fun ys e => by
      have e : PyData.tuple (l.map eN) = .tuple ys := e
      cases e
      rw [List.length_map]; exact hl l hm) l (some (.r p)) (some (.r n)) st
    rw [(sameT_iff (eT l) l).mpr rfl, if_pos rfl] at h
    exact h⟩
  rw [show L.findSome? (fun _ => (none : Option Rt)) = none by simp, ← hz] at lp
  have ne : neD (.int ((L.map eT).length : Int)) (.int ((L.map eT).length : Int)) = some (.bool false) := by rw [o_ne_i]; simp
  have hl2 : lenF [.list (L.map eT)] = some (.int ((L.map eT).length : Int)) := by simp
  generalize List.zipWith pairD (L.map eT) (L.map eT) = ZZ at *
  generalize ((L.map eT).length : Int) = NN at *
  generalize L.map eT = LM at *
  simp -implicitDefEqProofs at lp
  unfold m_is_told d_is_told
  simp -implicitDefEqProofs [-o_ne_i, lkp, lkg, lp1, hl2, ne, z2, lp, -forL_cons]
section
variable {ls ss : List Int} (L : Lg ls) {a b : Int} (J : 0 ≤ a ∧ a ≤ b ∧ b ≤ 9) (S : Sps ss)
include L J S
theorem r_levels_hold_r {p : Nat} {st : Sto} (hp : st[p]? = some (.lst ((lvT ls ss a b).map eT))) : m_levels_hold [(.d (.tuple ((ls).map .int))), (.d (.tuple ((ss).map .int))), .d (.tuple [.int a, .int b]), .r p] st = .ok (.d (.bool true)) st := by
  have hn := S.n
  have hln := L.n
  have e1 := fun st => r_need_some L S J st
  have e2 := r_levels_by L (a := a) (b := b) S st
  rw [lvT_data] at e2
  have hpl := (List.getElem?_eq_some_iff.mp hp).1
  have e3 := r_is_told_r (L := lvT ls ss a b) (by unfold lvT; simp; omega) (fun l hl => by
    unfold lvT at hl
    obtain ⟨k, _, rfl⟩ := List.mem_map.mp hl
    have := LV_len (ls := ls) (ss := ss) (a := a) (b := b) hln.1 k
    omega) (p := p) (n := st.length) (st := st ++ [.lst ((lvT ls ss a b).map eT)]) (by rw [List.getElem?_append_left hpl]; exact hp) (get_mid st [] _)
  have tk : (st ++ [Ob.lst ((lvT ls ss a b).map eT)]).take st.length = st := take_mid _ _
  generalize st ++ [Ob.lst ((lvT ls ss a b).map eT)] = SF at *
  generalize ls.map PyData.int = LS at *
  generalize ss.map PyData.int = SS at *
  unfold m_levels_hold d_levels_hold
  simp -implicitDefEqProofs [e1, e2, e3, tk]
end
end

section
variable [Tbl]
open PySem.W (Datum DatumOrd Tup minOf maxOf listLt)
section
variable {ls ss : List Int} (L : Lg ls) {a b : Int} (J : 0 ≤ a ∧ a ≤ b ∧ b ≤ 9) (S : Sps ss)
include L J S
omit J L S in
theorem bt_in {f : Nat → Nat → Nat → Option Int} {n len : Nat} (hl : 1 ≤ len) {z : Bt} : PP (wys f n) n len len 0 z.1 z.2.items ↔ z.2.items ∈ comps n len ∧ cst f 0 0 z.2.items = some z.1 := by
  obtain ⟨k, rfl⟩ : ∃ k, len = k + 1 := ⟨len - 1, by omega⟩
  have := comps_PP f n (k + 1) k 0 z.1 z.2.items (Nat.zero_le _) (Nat.le_refl _)
  rw [show k + 1 - 1 - k = 0 by omega, Nat.sub_zero] at this
  exact this
omit J L S in
theorem co_vl {n len : Nat} (hl : 1 ≤ len) {l : List Int} (h : l ∈ comps n len) : vl n 0 l ∧ l.length = len := by
  obtain ⟨k, rfl⟩ : ∃ k, len = k + 1 := ⟨len - 1, by omega⟩
  exact comps_vl n k 0 l (by rw [Nat.sub_zero]; exact h)
/-- a clean parting is the best one -/
theorem clean_best {z : Bt} (h : btab (wcl ls ss a b) ls.length ss.length ss.length 0 = some z) : btab (wcu ls ss a b) ls.length ss.length ss.length 0 = some z ∧ z.1 = 0 ∧ cst (fun i d => fcl ls (ss.getD i 0) a b d) 0 0 z.2.items = some 0 := by
  have hs := S.n
  have J2 : 0 ≤ a ∧ a ≤ b := ⟨J.1, J.2.1⟩
  have i1 := btab_is (wcl ls ss a b) ls.length ss.length ss.length 0
  have i2 := btab_is (wcu ls ss a b) ls.length ss.length ss.length 0
  have c1 := fun {z : Bt} => bt_in (f := fun i d => fcl ls (ss.getD i 0) a b d) (n := ls.length) hs.1 (z := z)
  have c2 := fun {z : Bt} => bt_in (f := fun i d => fcu ls (ss.getD i 0) a b d) (n := ls.length) hs.1 (z := z)
  rw [h] at i1
  obtain ⟨z1, z2⟩ := c1.mp i1.1
  have v := (co_vl hs.1 z1).1
  obtain ⟨_, k2, k3⟩ := cst_0 (ss := ss) L J2 z.2.items 0 0 v
  have hz := k2 _ z2
  rw [hz] at z2
  have pz : PP (wcu ls ss a b) ls.length ss.length ss.length 0 z.1 z.2.items := c2.mpr ⟨z1, by rw [hz]; exact k3.mp z2⟩
  cases hy : btab (wcu ls ss a b) ls.length ss.length ss.length 0 with
  | none => rw [hy] at i2; exact absurd pz (i2 z)
  | some y =>
    rw [hy] at i2
    have le := i2.2 z pz
    obtain ⟨y1, y2⟩ := c2.mp i2.1
    obtain ⟨m1, _, m3⟩ := cst_0 (ss := ss) L J2 y.2.items 0 0 (co_vl hs.1 y1).1
    have y0 := m1 _ y2
    have yz : y.1 = 0 := by
      rcases le with e | e
      · rw [e, hz]
      · rw [blt_eq] at e
        by_cases q : y.1 = z.1
        · rw [q, hz]
        · rw [if_neg q] at e
          have := of_decide_eq_true e
          omega
    rw [yz] at y2
    have le2 := i1.2 y (c1.mpr ⟨y1, by rw [yz]; exact m3.mpr y2⟩)
    rw [ble_asym le le2]
    exact ⟨rfl, hz, z2⟩
omit L J S in
theorem ss_zip {at' : Nat} {m : Int} {l : List Int} {ls : List Int} {d : Nat} (h : at' < ss.length) : (runsL ls d (m :: l)).zip (ss.drop at') = (sl ls d (d + m.toNat), ss.getD at' 0) :: (runsL ls (d + m.toNat) l).zip (ss.drop (at' + 1)) := by
  rw [List.drop_eq_getElem_cons h, List.getD_eq_getElem?_getD, List.getElem?_eq_getElem h]; rfl
omit J in
/-- the runs of a clean parting fit -/
theorem runs_fit : ∀ (l : List Int) (at' d : Nat) (c : Int), vl ls.length d l → at' + l.length ≤ ss.length → cst (fun i d => fcl ls (ss.getD i 0) a b d) at' d l = some c → ∀ p ∈ (runsL ls d l).zip (ss.drop at'), Lg p.1 ∧ (1 ≤ p.2 ∧ p.2 ≤ 80) ∧ fitB p.1 p.2 a b = true
  | [], at', d, c, _, _, _, p, hp => by
    rw [show runsL ls d [] = [] from rfl, List.zip_nil_left] at hp; cases hp
  | m :: l, at', d, c, hv, hl, h, p, hp => by
    obtain ⟨h1, h2, h3, h4⟩ := hv
    rw [List.length_cons] at hl
    unfold cst at h
    have el : fcl ls (ss.getD at' 0) a b d m.toNat = if fitB (sl ls d (d + m.toNat)) (ss.getD at' 0) a b = true then some 0 else none := rfl
    rw [el] at h
    have hb : ss.getD at' 0 ∈ ss := by
      rw [List.getD_eq_getElem?_getD, List.getElem?_eq_getElem (show at' < ss.length by omega)]
      exact List.getElem_mem _
    cases hf : fitB (sl ls d (d + m.toNat)) (ss.getD at' 0) a b with
    | false => rw [hf] at h; cases h
    | true =>
      cases hr : cst (fun i d => fcl ls (ss.getD i 0) a b d) (at' + 1) (d + m.toNat) l with
      | none => rw [hf, hr] at h; cases h
      | some y =>
        rw [ss_zip (by omega)] at hp
        rcases List.mem_cons.mp hp with rfl | hp
        · exact ⟨sl_lg L (by omega) h3, S.b _ hb, hf⟩
        · exact runs_fit l (at' + 1) (d + m.toNat) y h4 (by omega) hr p hp
/-- the cuts of the runs together -/
theorem runs_cuts (v0 v1 v3 v4 v5 : Option Wv) (st : Sto) : ∀ (l : List Int) (at' d : Nat) (c acc : Int), vl ls.length d l → at' + l.length ≤ ss.length → cst (fun i d => fcu ls (ss.getD i 0) a b d) at' d l = some c →
    forL (gTp (gCn (gN 6) (gCn (gN 7) gNl))) d__law_some_right_l1 [] (((runsL ls d l).zip (ss.drop at')).map fun p => PyData.tuple [eL p.1, .int p.2]) [v0, v1, some (.d (.tuple [.int a, .int b])), v3, v4, v5, none, none, some (.d (.int (acc))), none] st =
      .nx [v0, v1, some (.d (.tuple [.int a, .int b])), v3, v4, v5, none, none, some (.d (.int (acc + c))), none] st
  | [], at', d, c, acc, _, _, h => by
    have h : some (0 : Int) = some c := h
    rw [show runsL ls d [] = [] from rfl, List.zip_nil_left, ← Option.some.inj h, Int.add_zero]; simp
  | m :: l, at', d, c, acc, hv, hl, h => by
    obtain ⟨h1, h2, h3, h4⟩ := hv
    rw [List.length_cons] at hl
    unfold cst at h
    have eu : fcu ls (ss.getD at' 0) a b d m.toNat = cutsT (sl ls d (d + m.toNat)) (ss.getD at' 0) a b := rfl
    rw [eu] at h
    have hb : ss.getD at' 0 ∈ ss := by
      rw [List.getD_eq_getElem?_getD, List.getElem?_eq_getElem (show at' < ss.length by omega)]
      exact List.getElem_mem _
    cases hc : cutsT (sl ls d (d + m.toNat)) (ss.getD at' 0) a b with
    | none => rw [hc] at h; cases h
    | some x =>
      cases hr : cst (fun i d => fcu ls (ss.getD i 0) a b d) (at' + 1) (d + m.toNat) l with
      | none => rw [hc, hr] at h; cases h
      | some y =>
        rw [hc, hr] at h
        have h := Option.some.inj h
        have ih := runs_cuts v0 v1 v3 v4 v5 st l (at' + 1) (d + m.toNat) y (acc + x) h4 (by omega) hr
        have LR : Lg (sl ls d (d + m.toNat)) := sl_lg L (by omega) h3
        have e1 := fun st => r_cut_to LR (S.b _ hb) J st
        unfold cutsT at hc
        obtain ⟨g, hg, hx⟩ := Option.map_eq_some_iff.mp hc
        rw [hg, show cutD' (some g) = .tuple (g.map .int) from rfl] at e1
        have hn := LR.n
        have e2 := fun st => r_law_cuts (ls := sl ls d (d + m.toNat)) (by omega) g st
        rw [hx] at e2
        rw [ss_zip (by omega), List.map_cons, forL_cons]
        have gt : gTp (gCn (gN 6) (gCn (gN 7) gNl)) (.d (.tuple [eL (sl ls d (d + m.toNat)), .int (ss.getD at' 0)])) [v0, v1, some (.d (.tuple [.int a, .int b])), v3, v4, v5, none, none, some (.d (.int (acc))), none] = some [v0, v1, some (.d (.tuple [.int a, .int b])), v3, v4, v5, some (.d (eL (sl ls d (d + m.toNat)))), some (.d (.int (ss.getD at' 0))), some (.d (.int (acc))), none] := rfl
        have t : d__law_some_right_l1 [v0, v1, some (.d (.tuple [.int a, .int b])), v3, v4, v5, some (.d (eL (sl ls d (d + m.toNat)))), some (.d (.int (ss.getD at' 0))), some (.d (.int (acc))), none] st = .nx [v0, v1, some (.d (.tuple [.int a, .int b])), v3, v4, v5, none, none, some (.d (.int (acc + x))), none] st := by
          rw [show eL (sl ls d (d + m.toNat)) = .tuple ((sl ls d (d + m.toNat)).map .int) from rfl]
          generalize (sl ls d (d + m.toNat)).map PyData.int = SLD at *
          generalize g.map PyData.int = GD at *
          generalize ss.getD at' 0 = SP at *
          unfold d__law_some_right_l1
          simp -implicitDefEqProofs [e1, e2]
        rw [gt]
        dsimp only
        rw [t, ← h, ← Int.add_assoc]
        exact ih
omit L J S in
theorem runs_zip (R : List (List Int)) : List.zipWith pairD (R.map eL) (ss.map .int) = (R.zip ss).map fun p => PyData.tuple [eL p.1, .int p.2] := by
  rw [List.zipWith_map, List.zip_eq_zipWith, List.map_zipWith]; rfl
theorem r_some_right (st : Sto) : m__law_some_right [(.d (.tuple ((ls).map .int))), (.d (.tuple ((ss).map .int))), .d (.tuple [.int a, .int b])] st = .ok (.d (.bool true)) st := by
  have hn := L.n
  have hs := S.n
  have e1 := fun st => r_parting L J S st
  have e2 := fun st => r_fewest L J S st
  have e3 := r_levels L J S st
  rw [lvT_data] at e3
  have e4 := r_levels_hold_r L J S (get_mid st [] (.lst ((lvT ls ss a b).map eT)))
  have e5 := fun st => r_stuck L J S st
  have sk : eqD (stk ls.length (lvT ls ss a b)) (.int (-1)) = some (.bool (decide (ls.length ∈ LV ls ss a b ss.length))) := by
    unfold stk
    rw [lvT_last]
    show eqD (if ls.length ∈ LV ls ss a b ss.length then _ else _) _ = _
    by_cases q : ls.length ∈ LV ls ss a b ss.length
    · rw [if_pos q, decide_eq_true q]; rfl
    · rw [if_neg q, decide_eq_false q]
      cases (List.filter (fun p => p.1.isEmpty) (lvT ls ss a b).zipIdx).head? with
      | none => rfl
      | some p =>
        show eqD (.int (p.2 : Int)) (.int (-1)) = _
        rw [o_eq_i]
        have : ((p.2 : Int) == -1) = false := by simp
        rw [this]
  rw [← parting_none L J S] at sk
  have tk : (st ++ [Ob.lst ((lvT ls ss a b).map eT)]).take st.length = st := take_mid _ _
  have hmr : MR (wcu ls ss a b) ls.length ss.length ls.length = (btab (wcu ls ss a b) ls.length ss.length ss.length 0).map (·.1) := MR_best fun i d p h => wcu_lt h
  have cm := fun k st => r_cut_marks L J S k st
  have nb : ∀ v : Bool, neD (.bool v) (.bool v) = some (.bool false) := fun v => by cases v <;> rfl
  have nt := nb true
  have nf := nb false
  have z2 : ∀ (R : List (List Int)) st, zip2W [.d (.list (R.map eL)), (.d (.tuple ((ss).map .int)))] st = .ok ⟨(R.zip ss).map fun p => PyData.tuple [eL p.1, .int p.2], []⟩ st := fun R st => by rw [← runs_zip]; rfl
  -- what stands behind a clean parting or none
  have tail : ∀ (v3 : Option Wv) (y : Bt), btab (wcu ls ss a b) ls.length ss.length ss.length 0 = some y → ∃ RD : List PyData, (∀ st, m__law_runs [(.d (.tuple ((ls).map .int))), (.d (.tuple ((y.2.items).map .int)))] st = .ok (.d (.list RD)) st) ∧ ∃ ZD, (∀ st, zip2W [.d (.list RD), (.d (.tuple ((ss).map .int)))] st = .ok ⟨ZD, []⟩ st) ∧
      (∀ v4 v5 st, forL (gTp (gCn (gN 6) (gCn (gN 7) gNl))) d__law_some_right_l1 [] ZD [some (.d (.tuple ((ls).map .int))), some (.d (.tuple ((ss).map .int))), some (.d (.tuple [.int a, .int b])), v3, v4, v5, none, none, some (.d (.int (0))), none] st = .nx [some (.d (.tuple ((ls).map .int))), some (.d (.tuple ((ss).map .int))), some (.d (.tuple [.int a, .int b])), v3, v4, v5, none, none, some (.d (.int (y.1))), none] st) := fun v3 y hy => by
    have i2 := btab_is (wcu ls ss a b) ls.length ss.length ss.length 0
    rw [hy] at i2
    obtain ⟨y1, y2⟩ := (bt_in (f := fun i d => fcu ls (ss.getD i 0) a b d) (n := ls.length) hs.1 (z := y)).mp i2.1
    have v := co_vl hs.1 y1
    refine ⟨_, fun st => r_law_runs v.1 (by omega) st, _, fun st => z2 _ st, fun v4 v5 st => ?_⟩
    have := runs_cuts L J S (some (.d (.tuple ((ls).map .int)))) (some (.d (.tuple ((ss).map .int)))) v3 v4 v5 st y.2.items 0 0 y.1 0 v.1 (by omega) y2
    rw [List.drop_zero, Int.zero_add] at this
    exact this
  have fin : ∀ (y : Bt), btab (wcu ls ss a b) ls.length ss.length ss.length 0 = some y → (∀ st, m_cut_marks [(.d (.tuple ((ls).map .int))), (.d (.tuple ((ss).map .int))), .d (.tuple [.int a, .int b]), (.d (.int (y.1 + 1)))] st = .ok (.d .none) st) ∧ ∃ D, (∀ st, m_cut_marks [(.d (.tuple ((ls).map .int))), (.d (.tuple ((ss).map .int))), .d (.tuple [.int a, .int b]), (.d (.int (y.1)))] st = .ok (.d D) st) ∧ ∀ st, m_marks_hold [(.d (.tuple ((ls).map .int))), (.d (.tuple ((ss).map .int))), .d (.tuple [.int a, .int b]), (.d (.int (y.1))), .d D] st = .ok (.d (.bool true)) st := fun y hy => by
    rw [hy] at hmr
    have hmr : MR (wcu ls ss a b) ls.length ss.length ls.length = some y.1 := hmr
    refine ⟨fun st => ?_, _, fun st => cm y.1 st, fun st => ?_⟩
    · rw [cm]
      unfold cmD
      rw [hmr]
      dsimp only
      rw [if_pos (by omega)]
    · unfold cmD
      rw [hmr]
      dsimp only
      rw [if_neg (by omega)]
      exact r_marks_told L J S (fun v hv => by rw [hmr] at hv; have := Option.some.inj hv; omega) st
  have eo : ∀ y : Bt, eO (some y) = .tuple [.int y.1, .tuple (y.2.items.map .int)] := fun y => rfl
  have nei : ∀ i : Int, neD (.int i) (.int i) = some (.bool false) := fun i => by rw [o_ne_i]; simp
  cases hP : btab (wcl ls ss a b) ls.length ss.length ss.length 0 with
  | some z =>
    obtain ⟨hU, hz, hc⟩ := clean_best L J S hP
    have i2 := btab_is (wcu ls ss a b) ls.length ss.length ss.length 0
    rw [hU] at i2
    have v := co_vl hs.1 ((bt_in (f := fun i d => fcu ls (ss.getD i 0) a b d) (n := ls.length) hs.1 (z := z)).mp i2.1).1
    obtain ⟨RD, r1, ZD, r2, r3⟩ := tail (some (.d (.tuple (z.2.items.map .int)))) z hU
    obtain ⟨f1, D, f2, f3⟩ := fin z hU
    have r4 := r_law_runs (ls := ls) v.1 (show z.2.items.length ≤ 1000 by omega)
    have hRD : RD = (runsL ls 0 z.2.items).map eL := by
      have h1 := r1 st
      rw [r4 st] at h1
      cases h1; rfl
    have hZD : ZD = ((runsL ls 0 z.2.items).zip ss).map fun p => PyData.tuple [eL p.1, .int p.2] := by
      have h1 := r2 st
      rw [hRD, z2] at h1
      cases h1; rfl
    have rf := runs_fit L S z.2.items 0 0 0 v.1 (by omega) hc
    rw [List.drop_zero] at rf
    have lc := fun v4 v5 st => lcL_mapE (g := gTp (gCn (gN 6) (gCn (gN 7) gNl))) (c := eCall m_fits (aCons (eVar 6) (aCons (eVar 7) (aCons (eVar 2) aNil)))) (env := [some (.d (.tuple ((ls).map .int))), some (.d (.tuple ((ss).map .int))), some (.d (.tuple [.int a, .int b])), some (.d (.tuple (z.2.items.map .int))), v4, v5, none, none, none, none]) (st := st) (fun p => PyData.tuple [eL p.1, .int p.2]) (fun _ => .bool true) ((runsL ls 0 z.2.items).zip ss) [] fun p hp => ⟨_, rfl, by
      obtain ⟨p1, p2, p3⟩ := rf p hp
      have e := fun st => r_fits p1 p2 J st
      rw [p3] at e
      obtain ⟨r, s⟩ := p
      rw [show eL r = .tuple (r.map .int) from rfl]
      generalize r.map PyData.int = RR at *
      simp -implicitDefEqProofs [e]⟩
    simp only [List.nil_append] at lc
    rw [← hZD] at lc
    have al := o_all' ((runsL ls 0 z.2.items).zip ss) fun _ => true
    rw [show ((runsL ls 0 z.2.items).zip ss).all (fun _ => true) = true by simp] at al
    have h3 : ZD.length ≤ 1000000 := by rw [hZD, List.length_map, List.length_zip]; omega
    have nt2 := (by
      have := q_ne (⟨z.2.items⟩ : Tup Int) ⟨z.2.items⟩
      rw [decide_eq_true rfl] at this
      exact this : neD (.tuple (z.2.items.map .int)) (.tuple (z.2.items.map .int)) = some (.bool false))
    have n0 := nei 0
    rw [hP, show ptD' (some z) = .tuple (z.2.items.map .int) from rfl] at e1
    rw [hU, eo] at e2
    rw [hP] at sk
    rw [show Option.isSome (some z) = true from rfl] at sk
    rw [hz] at e2 r3 f1 f2 f3
    simp only [Int.zero_add] at f1
    generalize (((runsL ls 0 z.2.items).zip ss).map fun _ => PyData.bool true) = TT at *
    generalize stk ls.length (lvT ls ss a b) = SK at *
    generalize (lvT ls ss a b).map eT = LF at *
    generalize st ++ [Ob.lst LF] = S1 at *
    generalize z.2.items.map PyData.int = ZI at *
    generalize ls.map PyData.int = LS at *
    generalize ss.map PyData.int = SS at *
    unfold m__law_some_right d__law_some_right
    simp -implicitDefEqProofs [e1, e2, e3, e4, e5, sk, nt, n0, nt2, r1, r2, wipeE, h3, lc, al, r3, f1, f2, f3, tk]
  | none =>
    rw [hP, show ptD' none = .none from rfl] at e1
    rw [hP] at sk
    rw [show Option.isSome (none : Option Bt) = false from rfl] at sk
    cases hU : btab (wcu ls ss a b) ls.length ss.length ss.length 0 with
    | none =>
      rw [hU] at hmr
      have hmr : MR (wcu ls ss a b) ls.length ss.length ls.length = none := hmr
      have c99 := fun st => cm 99 st
      have h99 := fun st => r_marks_told L J S (k := 99) (fun v hv => by rw [hmr] at hv; cases hv) st
      have ecm : cmD ls ss a b 99 = .tuple (FD ls ss a b ss.length) := by unfold cmD; rw [hmr]
      rw [ecm] at c99
      rw [hU, show eO none = .none from rfl] at e2
      generalize FD ls ss a b ss.length = FF at *
      generalize stk ls.length (lvT ls ss a b) = SK at *
      generalize (lvT ls ss a b).map eT = LF at *
      generalize st ++ [Ob.lst LF] = S1 at *
      generalize ls.map PyData.int = LS at *
      generalize ss.map PyData.int = SS at *
      unfold m__law_some_right d__law_some_right
      simp -implicitDefEqProofs [e1, e2, e3, e4, e5, sk, nf, c99, h99, tk]
    | some y =>
      obtain ⟨RD, r1, ZD, r2, r3⟩ := tail (some (.d .none)) y hU
      obtain ⟨f1, D, f2, f3⟩ := fin y hU
      have ny := nei y.1
      rw [hU, eo] at e2
      generalize stk ls.length (lvT ls ss a b) = SK at *
      generalize (lvT ls ss a b).map eT = LF at *
      generalize st ++ [Ob.lst LF] = S1 at *
      generalize y.2.items.map PyData.int = ZI at *
      generalize y.1 = Y1 at *
      generalize ls.map PyData.int = LS at *
      generalize ss.map PyData.int = SS at *
      unfold m__law_some_right d__law_some_right
      simp -implicitDefEqProofs [-o_ne_i, e1, e2, e3, e4, e5, sk, nf, r1, r2, r3, ny, f1, f2, f3, tk]
end
end

section
variable [Tbl]
theorem l1_turn {ls : List Int} (L : Lg ls) {a b : Int} (J : 0 ≤ a ∧ a ≤ b ∧ b ≤ 9) {s : Int} (hs : 1 ≤ s ∧ s ≤ 80) (v0 v1 v2 v3 : Option Wv) (st : Sto) : d_law_l1 [v0, v1, v2, v3, some (.d (.tuple ((ls).map .int))), some (.d (.tuple [.int a, .int b])), some (.d (.int (s)))] st =
    .nx [v0, v1, v2, v3, some (.d (.tuple ((ls).map .int))), some (.d (.tuple [.int a, .int b])), none] st := by
  have e1 := fun st => r_one_right L hs J st
  generalize ls.map PyData.int = LS at *
  unfold d_law_l1
  simp -implicitDefEqProofs [e1]
theorem l2_turn {p : Nat} {st : Sto} (hp : Pen p st) (v0 v1 : Option Wv) (x : PyData) : ∃ st', d_law_l2 [v0, v1, some (.r p), some (.d x), none, none, none] st = .nx [v0, v1, some (.r p), none, none, none, none] st' ∧ Pen p st' := by
  obtain ⟨ls, st1, e1, n1, b1, c1⟩ := r_longs hp (most := 12) (by decide) (by decide)
  have L : Lg ls := ⟨by omega, b1⟩
  obtain ⟨a, b, st2, e2, J, c2⟩ := r_joints c1.pen
  obtain ⟨s, st3, e3, S, c3⟩ := r_span c2.pen L J
  obtain ⟨d1, st4, e4, a4, b4, c4⟩ := r_draw 80 c3.pen (by decide) (by decide)
  obtain ⟨ss, st5, e5, SS, c5⟩ := r_law_spans c4.pen L J
  refine ⟨st5, ?_, c5.pen⟩
  have e6 := fun st => r_some_right L J SS st
  have t1 := l1_turn L J S v0 v1 (some (.r p)) (some (.d x)) st4
  generalize hd : 1 + d1 = s2
  have t2 := l1_turn L J (s := s2) (by omega) v0 v1 (some (.r p)) (some (.d x)) st4
  generalize ls.map PyData.int = LS at *
  generalize ss.map PyData.int = SSD at *
  unfold d_law_l2
  simp -implicitDefEqProofs [e1, e2, e3, e4, hd, lstW, srcW_dl, t1, t2, e5, e6]
theorem l3_cell (sc : Wv) (c : Int) (st : Sto) : ∃ st', d_law_l3 [some sc, some (.d (.int (c))), none, none, none, none, none] st = .nx [some sc, none, none, none, none, none, none] st' := by
  obtain ⟨a0, b0, d0, e1⟩ := r_pen_of c st
  have hp : Pen st.length (st ++ [Ob.lst [.int a0, .int b0, .int d0]]) := ⟨a0, b0, d0, by simp⟩
  obtain ⟨st1, t1, p1⟩ := l2_turn hp (some sc) (some (.d (.int (c)))) (.int 0)
  obtain ⟨st2, t2, p2⟩ := l2_turn p1 (some sc) (some (.d (.int (c)))) (.int 1)
  have rg : ∀ st, rg1W [(.d (.int (2)))] st = .ok ⟨[.int 0, .int 1], []⟩ st := fun st => rfl
  refine ⟨st2, ?_⟩
  unfold d_law_l3
  simp -implicitDefEqProofs [e1, rg, t1, t2]
theorem law_ok (ns : List Int) (h : ns.length ≤ 63) : ∃ st, m_law [.d (.list (ns.map .int))] [] = .ok (.d (.bool true)) st :=
  outer_w (n := 5) (K := 2) (body := d_law_l3) (fun sc c st => l3_cell sc c st) ns h
end

theorem all_mk [Tbl] {P : Program} {w : World} {K : Frg} {h : Heap} {mg : Str → Option Value} {fa : Addr} (X : K.In h) (G : h.Ns mainGlobals mg) (hfa : mg "law" = some (.ref fa))
    {f_0 : Addr} {od_0 an_0 : Option Addr} {sl_0 : Array (Option Value)} {oc_0 kV_0 dc_0 pm_0 cd_0 ct_0 : Value}
    {f_1 : Addr} {od_1 an_1 : Option Addr} {sl_1 : Array (Option Value)} {oc_1 kV_1 dc_1 pm_1 cd_1 ct_1 : Value}
    {f_2 : Addr} {od_2 an_2 : Option Addr} {sl_2 : Array (Option Value)} {oc_2 kV_2 dc_2 pm_2 cd_2 ct_2 : Value}
    {f_3 : Addr} {od_3 an_3 : Option Addr} {sl_3 : Array (Option Value)} {oc_3 kV_3 dc_3 pm_3 cd_3 ct_3 : Value}
    {f_4 : Addr} {od_4 an_4 : Option Addr} {sl_4 : Array (Option Value)} {oc_4 kV_4 dc_4 pm_4 cd_4 ct_4 : Value}
    {f_5 : Addr} {od_5 an_5 : Option Addr} {sl_5 : Array (Option Value)} {oc_5 kV_5 dc_5 pm_5 cd_5 ct_5 : Value}
    {f_6 : Addr} {od_6 an_6 : Option Addr} {sl_6 : Array (Option Value)} {oc_6 kV_6 dc_6 pm_6 cd_6 ct_6 : Value}
    {f_7 : Addr} {od_7 an_7 : Option Addr} {sl_7 : Array (Option Value)} {oc_7 kV_7 dc_7 pm_7 cd_7 ct_7 : Value}
    {f_8 : Addr} {od_8 an_8 : Option Addr} {sl_8 : Array (Option Value)} {oc_8 kV_8 dc_8 pm_8 cd_8 ct_8 : Value}
    {f_9 : Addr} {od_9 an_9 : Option Addr} {sl_9 : Array (Option Value)} {oc_9 kV_9 dc_9 pm_9 cd_9 ct_9 : Value}
    {f_10 : Addr} {od_10 an_10 : Option Addr} {sl_10 : Array (Option Value)} {oc_10 kV_10 dc_10 pm_10 cd_10 ct_10 : Value}
    {f_11 : Addr} {od_11 an_11 : Option Addr} {sl_11 : Array (Option Value)} {oc_11 kV_11 dc_11 pm_11 cd_11 ct_11 : Value}
    {f_12 : Addr} {od_12 an_12 : Option Addr} {sl_12 : Array (Option Value)} {oc_12 kV_12 dc_12 pm_12 cd_12 ct_12 : Value}
    {f_13 : Addr} {od_13 an_13 : Option Addr} {sl_13 : Array (Option Value)} {oc_13 kV_13 dc_13 pm_13 cd_13 ct_13 : Value}
    {f_14 : Addr} {od_14 an_14 : Option Addr} {sl_14 : Array (Option Value)} {oc_14 kV_14 dc_14 pm_14 cd_14 ct_14 : Value}
    {f_15 : Addr} {od_15 an_15 : Option Addr} {sl_15 : Array (Option Value)} {oc_15 kV_15 dc_15 pm_15 cd_15 ct_15 : Value}
    {f_16 : Addr} {od_16 an_16 : Option Addr} {sl_16 : Array (Option Value)} {oc_16 kV_16 dc_16 pm_16 cd_16 ct_16 : Value}
    {f_17 : Addr} {od_17 an_17 : Option Addr} {sl_17 : Array (Option Value)} {oc_17 kV_17 dc_17 pm_17 cd_17 ct_17 : Value}
    {f_18 : Addr} {od_18 an_18 : Option Addr} {sl_18 : Array (Option Value)} {oc_18 kV_18 dc_18 pm_18 cd_18 ct_18 : Value}
    {f_19 : Addr} {od_19 an_19 : Option Addr} {sl_19 : Array (Option Value)} {oc_19 kV_19 dc_19 pm_19 cd_19 ct_19 : Value}
    {f_20 : Addr} {od_20 an_20 : Option Addr} {sl_20 : Array (Option Value)} {oc_20 kV_20 dc_20 pm_20 cd_20 ct_20 : Value}
    {f_21 : Addr} {od_21 an_21 : Option Addr} {sl_21 : Array (Option Value)} {oc_21 kV_21 dc_21 pm_21 cd_21 ct_21 : Value}
    {f_22 : Addr} {od_22 an_22 : Option Addr} {sl_22 : Array (Option Value)} {oc_22 kV_22 dc_22 pm_22 cd_22 ct_22 : Value}
    {f_23 : Addr} {od_23 an_23 : Option Addr} {sl_23 : Array (Option Value)} {oc_23 kV_23 dc_23 pm_23 cd_23 ct_23 : Value}
    {f_24 : Addr} {od_24 an_24 : Option Addr} {sl_24 : Array (Option Value)} {oc_24 kV_24 dc_24 pm_24 cd_24 ct_24 : Value}
    {f_25 : Addr} {od_25 an_25 : Option Addr} {sl_25 : Array (Option Value)} {oc_25 kV_25 dc_25 pm_25 cd_25 ct_25 : Value}
    {f_26 : Addr} {od_26 an_26 : Option Addr} {sl_26 : Array (Option Value)} {oc_26 kV_26 dc_26 pm_26 cd_26 ct_26 : Value}
    {f_27 : Addr} {od_27 an_27 : Option Addr} {sl_27 : Array (Option Value)} {oc_27 kV_27 dc_27 pm_27 cd_27 ct_27 : Value}
    {f_28 : Addr} {od_28 an_28 : Option Addr} {sl_28 : Array (Option Value)} {oc_28 kV_28 dc_28 pm_28 cd_28 ct_28 : Value}
    {f_29 : Addr} {od_29 an_29 : Option Addr} {sl_29 : Array (Option Value)} {oc_29 kV_29 dc_29 pm_29 cd_29 ct_29 : Value}
    {f_30 : Addr} {od_30 an_30 : Option Addr} {sl_30 : Array (Option Value)} {oc_30 kV_30 dc_30 pm_30 cd_30 ct_30 : Value}
    {f_31 : Addr} {od_31 an_31 : Option Addr} {sl_31 : Array (Option Value)} {oc_31 kV_31 dc_31 pm_31 cd_31 ct_31 : Value}
    {f_32 : Addr} {od_32 an_32 : Option Addr} {sl_32 : Array (Option Value)} {oc_32 kV_32 dc_32 pm_32 cd_32 ct_32 : Value}
    {f_33 : Addr} {od_33 an_33 : Option Addr} {sl_33 : Array (Option Value)} {oc_33 kV_33 dc_33 pm_33 cd_33 ct_33 : Value}
    {f_34 : Addr} {od_34 an_34 : Option Addr} {sl_34 : Array (Option Value)} {oc_34 kV_34 dc_34 pm_34 cd_34 ct_34 : Value}
    {f_35 : Addr} {od_35 an_35 : Option Addr} {sl_35 : Array (Option Value)} {oc_35 kV_35 dc_35 pm_35 cd_35 ct_35 : Value}
    {f_36 : Addr} {od_36 an_36 : Option Addr} {sl_36 : Array (Option Value)} {oc_36 kV_36 dc_36 pm_36 cd_36 ct_36 : Value}
    {f_37 : Addr} {od_37 an_37 : Option Addr} {sl_37 : Array (Option Value)} {oc_37 kV_37 dc_37 pm_37 cd_37 ct_37 : Value}
    {f_38 : Addr} {od_38 an_38 : Option Addr} {sl_38 : Array (Option Value)} {oc_38 kV_38 dc_38 pm_38 cd_38 ct_38 : Value}
    {f_39 : Addr} {od_39 an_39 : Option Addr} {sl_39 : Array (Option Value)} {oc_39 kV_39 dc_39 pm_39 cd_39 ct_39 : Value}
    {f_40 : Addr} {od_40 an_40 : Option Addr} {sl_40 : Array (Option Value)} {oc_40 kV_40 dc_40 pm_40 cd_40 ct_40 : Value}
    {f_41 : Addr} {od_41 an_41 : Option Addr} {sl_41 : Array (Option Value)} {oc_41 kV_41 dc_41 pm_41 cd_41 ct_41 : Value}
    {f_42 : Addr} {od_42 an_42 : Option Addr} {sl_42 : Array (Option Value)} {oc_42 kV_42 dc_42 pm_42 cd_42 ct_42 : Value}
    {f_43 : Addr} {od_43 an_43 : Option Addr} {sl_43 : Array (Option Value)} {oc_43 kV_43 dc_43 pm_43 cd_43 ct_43 : Value}
    {f_44 : Addr} {od_44 an_44 : Option Addr} {sl_44 : Array (Option Value)} {oc_44 kV_44 dc_44 pm_44 cd_44 ct_44 : Value}
    {f_45 : Addr} {od_45 an_45 : Option Addr} {sl_45 : Array (Option Value)} {oc_45 kV_45 dc_45 pm_45 cd_45 ct_45 : Value}
    {f_46 : Addr} {od_46 an_46 : Option Addr} {sl_46 : Array (Option Value)} {oc_46 kV_46 dc_46 pm_46 cd_46 ct_46 : Value}
    {f_47 : Addr} {od_47 an_47 : Option Addr} {sl_47 : Array (Option Value)} {oc_47 kV_47 dc_47 pm_47 cd_47 ct_47 : Value}
    {f_48 : Addr} {od_48 an_48 : Option Addr} {sl_48 : Array (Option Value)} {oc_48 kV_48 dc_48 pm_48 cd_48 ct_48 : Value}
    {f_49 : Addr} {od_49 an_49 : Option Addr} {sl_49 : Array (Option Value)} {oc_49 kV_49 dc_49 pm_49 cd_49 ct_49 : Value}
    {t_MOST_JOINT : Tok}
    {t_MOST_SPAN : Tok}
    {t_MOST_SPANS : Tok}
    {t_MOST_STONE : Tok}
    {t_MOST_STONES : Tok}
    (a_0 : PySem.W.nsIn K mainGlobals "_law_pen_of" = some (some (.ref f_0)))
    (l_0 : K.lookup f_0 = some ⟨oc_0, od_0, .func (PySem.W.fnOf "_law_pen_of" "_law_pen_of" (defArgs s__law_pen_of) (defBody s__law_pen_of) (defScope s__law_pen_of) .none kV_0 dc_0 pm_0 an_0 cd_0 ct_0), sl_0⟩)
    (c_0 : PySem.W.codeIn K cd_0 "_law_pen_of" = true)
    (k_0 : PySem.W.keepIn K (.ref f_0) = true)
    (a_1 : PySem.W.nsIn K mainGlobals "_law_cell_at" = some (some (.ref f_1)))
    (l_1 : K.lookup f_1 = some ⟨oc_1, od_1, .func (PySem.W.fnOf "_law_cell_at" "_law_cell_at" (defArgs s__law_cell_at) (defBody s__law_cell_at) (defScope s__law_cell_at) .none kV_1 dc_1 pm_1 an_1 cd_1 ct_1), sl_1⟩)
    (c_1 : PySem.W.codeIn K cd_1 "_law_cell_at" = true)
    (k_1 : PySem.W.keepIn K (.ref f_1) = true)
    (a_2 : PySem.W.nsIn K mainGlobals "_law_next" = some (some (.ref f_2)))
    (l_2 : K.lookup f_2 = some ⟨oc_2, od_2, .func (PySem.W.fnOf "_law_next" "_law_next" (defArgs s__law_next) (defBody s__law_next) (defScope s__law_next) .none kV_2 dc_2 pm_2 an_2 cd_2 ct_2), sl_2⟩)
    (c_2 : PySem.W.codeIn K cd_2 "_law_next" = true)
    (k_2 : PySem.W.keepIn K (.ref f_2) = true)
    (a_3 : PySem.W.nsIn K mainGlobals "_law_draw" = some (some (.ref f_3)))
    (l_3 : K.lookup f_3 = some ⟨oc_3, od_3, .func (PySem.W.fnOf "_law_draw" "_law_draw" (defArgs s__law_draw) (defBody s__law_draw) (defScope s__law_draw) .none kV_3 dc_3 pm_3 an_3 cd_3 ct_3), sl_3⟩)
    (c_3 : PySem.W.codeIn K cd_3 "_law_draw" = true)
    (k_3 : PySem.W.keepIn K (.ref f_3) = true)
    (a_4 : PySem.W.nsIn K mainGlobals "_law_longs" = some (some (.ref f_4)))
    (l_4 : K.lookup f_4 = some ⟨oc_4, od_4, .func (PySem.W.fnOf "_law_longs" "_law_longs" (defArgs s__law_longs) (defBody s__law_longs) (defScope s__law_longs) .none kV_4 dc_4 pm_4 an_4 cd_4 ct_4), sl_4⟩)
    (c_4 : PySem.W.codeIn K cd_4 "_law_longs" = true)
    (k_4 : PySem.W.keepIn K (.ref f_4) = true)
    (a_5 : PySem.W.nsIn K mainGlobals "_law_joints" = some (some (.ref f_5)))
    (l_5 : K.lookup f_5 = some ⟨oc_5, od_5, .func (PySem.W.fnOf "_law_joints" "_law_joints" (defArgs s__law_joints) (defBody s__law_joints) (defScope s__law_joints) .none kV_5 dc_5 pm_5 an_5 cd_5 ct_5), sl_5⟩)
    (c_5 : PySem.W.codeIn K cd_5 "_law_joints" = true)
    (k_5 : PySem.W.keepIn K (.ref f_5) = true)
    (a_6 : PySem.W.nsIn K mainGlobals "_law_span" = some (some (.ref f_6)))
    (l_6 : K.lookup f_6 = some ⟨oc_6, od_6, .func (PySem.W.fnOf "_law_span" "_law_span" (defArgs s__law_span) (defBody s__law_span) (defScope s__law_span) .none kV_6 dc_6 pm_6 an_6 cd_6 ct_6), sl_6⟩)
    (c_6 : PySem.W.codeIn K cd_6 "_law_span" = true)
    (k_6 : PySem.W.keepIn K (.ref f_6) = true)
    (a_7 : PySem.W.nsIn K mainGlobals "is_whole" = some (some (.ref f_7)))
    (l_7 : K.lookup f_7 = some ⟨oc_7, od_7, .func (PySem.W.fnOf "is_whole" "is_whole" (defArgs s_is_whole) (defBody s_is_whole) (defScope s_is_whole) .none kV_7 dc_7 pm_7 an_7 cd_7 ct_7), sl_7⟩)
    (c_7 : PySem.W.codeIn K cd_7 "is_whole" = true)
    (k_7 : PySem.W.keepIn K (.ref f_7) = true)
    (a_8 : PySem.W.nsIn K mainGlobals "is_from_to" = some (some (.ref f_8)))
    (l_8 : K.lookup f_8 = some ⟨oc_8, od_8, .func (PySem.W.fnOf "is_from_to" "is_from_to" (defArgs s_is_from_to) (defBody s_is_from_to) (defScope s_is_from_to) .none kV_8 dc_8 pm_8 an_8 cd_8 ct_8), sl_8⟩)
    (c_8 : PySem.W.codeIn K cd_8 "is_from_to" = true)
    (k_8 : PySem.W.keepIn K (.ref f_8) = true)
    (a_9 : PySem.W.nsIn K mainGlobals "are_longs" = some (some (.ref f_9)))
    (l_9 : K.lookup f_9 = some ⟨oc_9, od_9, .func (PySem.W.fnOf "are_longs" "are_longs" (defArgs s_are_longs) (defBody s_are_longs) (defScope s_are_longs) .none kV_9 dc_9 pm_9 an_9 cd_9 ct_9), sl_9⟩)
    (c_9 : PySem.W.codeIn K cd_9 "are_longs" = true)
    (k_9 : PySem.W.keepIn K (.ref f_9) = true)
    (a_10 : PySem.W.nsIn K mainGlobals "need_longs" = some (some (.ref f_10)))
    (l_10 : K.lookup f_10 = some ⟨oc_10, od_10, .func (PySem.W.fnOf "need_longs" "need_longs" (defArgs s_need_longs) (defBody s_need_longs) (defScope s_need_longs) .none kV_10 dc_10 pm_10 an_10 cd_10 ct_10), sl_10⟩)
    (c_10 : PySem.W.codeIn K cd_10 "need_longs" = true)
    (k_10 : PySem.W.keepIn K (.ref f_10) = true)
    (a_11 : PySem.W.nsIn K mainGlobals "is_span" = some (some (.ref f_11)))
    (l_11 : K.lookup f_11 = some ⟨oc_11, od_11, .func (PySem.W.fnOf "is_span" "is_span" (defArgs s_is_span) (defBody s_is_span) (defScope s_is_span) .none kV_11 dc_11 pm_11 an_11 cd_11 ct_11), sl_11⟩)
    (c_11 : PySem.W.codeIn K cd_11 "is_span" = true)
    (k_11 : PySem.W.keepIn K (.ref f_11) = true)
    (a_12 : PySem.W.nsIn K mainGlobals "need_spans" = some (some (.ref f_12)))
    (l_12 : K.lookup f_12 = some ⟨oc_12, od_12, .func (PySem.W.fnOf "need_spans" "need_spans" (defArgs s_need_spans) (defBody s_need_spans) (defScope s_need_spans) .none kV_12 dc_12 pm_12 an_12 cd_12 ct_12), sl_12⟩)
    (c_12 : PySem.W.codeIn K cd_12 "need_spans" = true)
    (k_12 : PySem.W.keepIn K (.ref f_12) = true)
    (a_13 : PySem.W.nsIn K mainGlobals "are_joints" = some (some (.ref f_13)))
    (l_13 : K.lookup f_13 = some ⟨oc_13, od_13, .func (PySem.W.fnOf "are_joints" "are_joints" (defArgs s_are_joints) (defBody s_are_joints) (defScope s_are_joints) .none kV_13 dc_13 pm_13 an_13 cd_13 ct_13), sl_13⟩)
    (c_13 : PySem.W.codeIn K cd_13 "are_joints" = true)
    (k_13 : PySem.W.keepIn K (.ref f_13) = true)
    (a_14 : PySem.W.nsIn K mainGlobals "need_joints" = some (some (.ref f_14)))
    (l_14 : K.lookup f_14 = some ⟨oc_14, od_14, .func (PySem.W.fnOf "need_joints" "need_joints" (defArgs s_need_joints) (defBody s_need_joints) (defScope s_need_joints) .none kV_14 dc_14 pm_14 an_14 cd_14 ct_14), sl_14⟩)
    (c_14 : PySem.W.codeIn K cd_14 "need_joints" = true)
    (k_14 : PySem.W.keepIn K (.ref f_14) = true)
    (a_15 : PySem.W.nsIn K mainGlobals "need_some" = some (some (.ref f_15)))
    (l_15 : K.lookup f_15 = some ⟨oc_15, od_15, .func (PySem.W.fnOf "need_some" "need_some" (defArgs s_need_some) (defBody s_need_some) (defScope s_need_some) .none kV_15 dc_15 pm_15 an_15 cd_15 ct_15), sl_15⟩)
    (c_15 : PySem.W.codeIn K cd_15 "need_some" = true)
    (k_15 : PySem.W.keepIn K (.ref f_15) = true)
    (a_16 : PySem.W.nsIn K mainGlobals "rest_of" = some (some (.ref f_16)))
    (l_16 : K.lookup f_16 = some ⟨oc_16, od_16, .func (PySem.W.fnOf "rest_of" "rest_of" (defArgs s_rest_of) (defBody s_rest_of) (defScope s_rest_of) .none kV_16 dc_16 pm_16 an_16 cd_16 ct_16), sl_16⟩)
    (c_16 : PySem.W.codeIn K cd_16 "rest_of" = true)
    (k_16 : PySem.W.keepIn K (.ref f_16) = true)
    (a_17 : PySem.W.nsIn K mainGlobals "most_off" = some (some (.ref f_17)))
    (l_17 : K.lookup f_17 = some ⟨oc_17, od_17, .func (PySem.W.fnOf "most_off" "most_off" (defArgs s_most_off) (defBody s_most_off) (defScope s_most_off) .none kV_17 dc_17 pm_17 an_17 cd_17 ct_17), sl_17⟩)
    (c_17 : PySem.W.codeIn K cd_17 "most_off" = true)
    (k_17 : PySem.W.keepIn K (.ref f_17) = true)
    (a_18 : PySem.W.nsIn K mainGlobals "cut_by" = some (some (.ref f_18)))
    (l_18 : K.lookup f_18 = some ⟨oc_18, od_18, .func (PySem.W.fnOf "cut_by" "cut_by" (defArgs s_cut_by) (defBody s_cut_by) (defScope s_cut_by) .none kV_18 dc_18 pm_18 an_18 cd_18 ct_18), sl_18⟩)
    (c_18 : PySem.W.codeIn K cd_18 "cut_by" = true)
    (k_18 : PySem.W.keepIn K (.ref f_18) = true)
    (a_19 : PySem.W.nsIn K mainGlobals "cuts_in" = some (some (.ref f_19)))
    (l_19 : K.lookup f_19 = some ⟨oc_19, od_19, .func (PySem.W.fnOf "cuts_in" "cuts_in" (defArgs s_cuts_in) (defBody s_cuts_in) (defScope s_cuts_in) .none kV_19 dc_19 pm_19 an_19 cd_19 ct_19), sl_19⟩)
    (c_19 : PySem.W.codeIn K cd_19 "cuts_in" = true)
    (k_19 : PySem.W.keepIn K (.ref f_19) = true)
    (a_20 : PySem.W.nsIn K mainGlobals "fit" = some (some (.ref f_20)))
    (l_20 : K.lookup f_20 = some ⟨oc_20, od_20, .func (PySem.W.fnOf "fit" "fit" (defArgs s_fit) (defBody s_fit) (defScope s_fit) .none kV_20 dc_20 pm_20 an_20 cd_20 ct_20), sl_20⟩)
    (c_20 : PySem.W.codeIn K cd_20 "fit" = true)
    (k_20 : PySem.W.keepIn K (.ref f_20) = true)
    (a_21 : PySem.W.nsIn K mainGlobals "ways_on" = some (some (.ref f_21)))
    (l_21 : K.lookup f_21 = some ⟨oc_21, od_21, .func (PySem.W.fnOf "ways_on" "ways_on" (defArgs s_ways_on) (defBody s_ways_on) (defScope s_ways_on) .none kV_21 dc_21 pm_21 an_21 cd_21 ct_21), sl_21⟩)
    (c_21 : PySem.W.codeIn K cd_21 "ways_on" = true)
    (k_21 : PySem.W.keepIn K (.ref f_21) = true)
    (a_22 : PySem.W.nsIn K mainGlobals "levels_by" = some (some (.ref f_22)))
    (l_22 : K.lookup f_22 = some ⟨oc_22, od_22, .func (PySem.W.fnOf "levels_by" "levels_by" (defArgs s_levels_by) (defBody s_levels_by) (defScope s_levels_by) .none kV_22 dc_22 pm_22 an_22 cd_22 ct_22), sl_22⟩)
    (c_22 : PySem.W.codeIn K cd_22 "levels_by" = true)
    (k_22 : PySem.W.keepIn K (.ref f_22) = true)
    (a_23 : PySem.W.nsIn K mainGlobals "levels" = some (some (.ref f_23)))
    (l_23 : K.lookup f_23 = some ⟨oc_23, od_23, .func (PySem.W.fnOf "levels" "levels" (defArgs s_levels) (defBody s_levels) (defScope s_levels) .none kV_23 dc_23 pm_23 an_23 cd_23 ct_23), sl_23⟩)
    (c_23 : PySem.W.codeIn K cd_23 "levels" = true)
    (k_23 : PySem.W.keepIn K (.ref f_23) = true)
    (a_24 : PySem.W.nsIn K mainGlobals "need_bound" = some (some (.ref f_24)))
    (l_24 : K.lookup f_24 = some ⟨oc_24, od_24, .func (PySem.W.fnOf "need_bound" "need_bound" (defArgs s_need_bound) (defBody s_need_bound) (defScope s_need_bound) .none kV_24 dc_24 pm_24 an_24 cd_24 ct_24), sl_24⟩)
    (c_24 : PySem.W.codeIn K cd_24 "need_bound" = true)
    (k_24 : PySem.W.keepIn K (.ref f_24) = true)
    (a_25 : PySem.W.nsIn K mainGlobals "is_mark_row" = some (some (.ref f_25)))
    (l_25 : K.lookup f_25 = some ⟨oc_25, od_25, .func (PySem.W.fnOf "is_mark_row" "is_mark_row" (defArgs s_is_mark_row) (defBody s_is_mark_row) (defScope s_is_mark_row) .none kV_25 dc_25 pm_25 an_25 cd_25 ct_25), sl_25⟩)
    (c_25 : PySem.W.codeIn K cd_25 "is_mark_row" = true)
    (k_25 : PySem.W.keepIn K (.ref f_25) = true)
    (a_26 : PySem.W.nsIn K mainGlobals "marks_hold" = some (some (.ref f_26)))
    (l_26 : K.lookup f_26 = some ⟨oc_26, od_26, .func (PySem.W.fnOf "marks_hold" "marks_hold" (defArgs s_marks_hold) (defBody s_marks_hold) (defScope s_marks_hold) .none kV_26 dc_26 pm_26 an_26 cd_26 ct_26), sl_26⟩)
    (c_26 : PySem.W.codeIn K cd_26 "marks_hold" = true)
    (k_26 : PySem.W.keepIn K (.ref f_26) = true)
    (a_27 : PySem.W.nsIn K mainGlobals "best_from" = some (some (.ref f_27)))
    (l_27 : K.lookup f_27 = some ⟨oc_27, od_27, .func (PySem.W.fnOf "best_from" "best_from" (defArgs s_best_from) (defBody s_best_from) (defScope s_best_from) .none kV_27 dc_27 pm_27 an_27 cd_27 ct_27), sl_27⟩)
    (c_27 : PySem.W.codeIn K cd_27 "best_from" = true)
    (k_27 : PySem.W.keepIn K (.ref f_27) = true)
    (a_28 : PySem.W.nsIn K mainGlobals "parting" = some (some (.ref f_28)))
    (l_28 : K.lookup f_28 = some ⟨oc_28, od_28, .func (PySem.W.fnOf "parting" "parting" (defArgs s_parting) (defBody s_parting) (defScope s_parting) .none kV_28 dc_28 pm_28 an_28 cd_28 ct_28), sl_28⟩)
    (c_28 : PySem.W.codeIn K cd_28 "parting" = true)
    (k_28 : PySem.W.keepIn K (.ref f_28) = true)
    (a_29 : PySem.W.nsIn K mainGlobals "fewest_cuts" = some (some (.ref f_29)))
    (l_29 : K.lookup f_29 = some ⟨oc_29, od_29, .func (PySem.W.fnOf "fewest_cuts" "fewest_cuts" (defArgs s_fewest_cuts) (defBody s_fewest_cuts) (defScope s_fewest_cuts) .none kV_29 dc_29 pm_29 an_29 cd_29 ct_29), sl_29⟩)
    (c_29 : PySem.W.codeIn K cd_29 "fewest_cuts" = true)
    (k_29 : PySem.W.keepIn K (.ref f_29) = true)
    (a_30 : PySem.W.nsIn K mainGlobals "is_told" = some (some (.ref f_30)))
    (l_30 : K.lookup f_30 = some ⟨oc_30, od_30, .func (PySem.W.fnOf "is_told" "is_told" (defArgs s_is_told) (defBody s_is_told) (defScope s_is_told) .none kV_30 dc_30 pm_30 an_30 cd_30 ct_30), sl_30⟩)
    (c_30 : PySem.W.codeIn K cd_30 "is_told" = true)
    (k_30 : PySem.W.keepIn K (.ref f_30) = true)
    (a_31 : PySem.W.nsIn K mainGlobals "levels_hold" = some (some (.ref f_31)))
    (l_31 : K.lookup f_31 = some ⟨oc_31, od_31, .func (PySem.W.fnOf "levels_hold" "levels_hold" (defArgs s_levels_hold) (defBody s_levels_hold) (defScope s_levels_hold) .none kV_31 dc_31 pm_31 an_31 cd_31 ct_31), sl_31⟩)
    (c_31 : PySem.W.codeIn K cd_31 "levels_hold" = true)
    (k_31 : PySem.W.keepIn K (.ref f_31) = true)
    (a_32 : PySem.W.nsIn K mainGlobals "_law_runs" = some (some (.ref f_32)))
    (l_32 : K.lookup f_32 = some ⟨oc_32, od_32, .func (PySem.W.fnOf "_law_runs" "_law_runs" (defArgs s__law_runs) (defBody s__law_runs) (defScope s__law_runs) .none kV_32 dc_32 pm_32 an_32 cd_32 ct_32), sl_32⟩)
    (c_32 : PySem.W.codeIn K cd_32 "_law_runs" = true)
    (k_32 : PySem.W.keepIn K (.ref f_32) = true)
    (a_33 : PySem.W.nsIn K mainGlobals "cut_marks" = some (some (.ref f_33)))
    (l_33 : K.lookup f_33 = some ⟨oc_33, od_33, .func (PySem.W.fnOf "cut_marks" "cut_marks" (defArgs s_cut_marks) (defBody s_cut_marks) (defScope s_cut_marks) .none kV_33 dc_33 pm_33 an_33 cd_33 ct_33), sl_33⟩)
    (c_33 : PySem.W.codeIn K cd_33 "cut_marks" = true)
    (k_33 : PySem.W.keepIn K (.ref f_33) = true)
    (a_34 : PySem.W.nsIn K mainGlobals "stuck" = some (some (.ref f_34)))
    (l_34 : K.lookup f_34 = some ⟨oc_34, od_34, .func (PySem.W.fnOf "stuck" "stuck" (defArgs s_stuck) (defBody s_stuck) (defScope s_stuck) .none kV_34 dc_34 pm_34 an_34 cd_34 ct_34), sl_34⟩)
    (c_34 : PySem.W.codeIn K cd_34 "stuck" = true)
    (k_34 : PySem.W.keepIn K (.ref f_34) = true)
    (a_35 : PySem.W.nsIn K mainGlobals "_law_cuts" = some (some (.ref f_35)))
    (l_35 : K.lookup f_35 = some ⟨oc_35, od_35, .func (PySem.W.fnOf "_law_cuts" "_law_cuts" (defArgs s__law_cuts) (defBody s__law_cuts) (defScope s__law_cuts) .none kV_35 dc_35 pm_35 an_35 cd_35 ct_35), sl_35⟩)
    (c_35 : PySem.W.codeIn K cd_35 "_law_cuts" = true)
    (k_35 : PySem.W.keepIn K (.ref f_35) = true)
    (a_36 : PySem.W.nsIn K mainGlobals "need_span" = some (some (.ref f_36)))
    (l_36 : K.lookup f_36 = some ⟨oc_36, od_36, .func (PySem.W.fnOf "need_span" "need_span" (defArgs s_need_span) (defBody s_need_span) (defScope s_need_span) .none kV_36 dc_36 pm_36 an_36 cd_36 ct_36), sl_36⟩)
    (c_36 : PySem.W.codeIn K cd_36 "need_span" = true)
    (k_36 : PySem.W.keepIn K (.ref f_36) = true)
    (a_37 : PySem.W.nsIn K mainGlobals "need_all" = some (some (.ref f_37)))
    (l_37 : K.lookup f_37 = some ⟨oc_37, od_37, .func (PySem.W.fnOf "need_all" "need_all" (defArgs s_need_all) (defBody s_need_all) (defScope s_need_all) .none kV_37 dc_37 pm_37 an_37 cd_37 ct_37), sl_37⟩)
    (c_37 : PySem.W.codeIn K cd_37 "need_all" = true)
    (k_37 : PySem.W.keepIn K (.ref f_37) = true)
    (a_38 : PySem.W.nsIn K mainGlobals "cut_to" = some (some (.ref f_38)))
    (l_38 : K.lookup f_38 = some ⟨oc_38, od_38, .func (PySem.W.fnOf "cut_to" "cut_to" (defArgs s_cut_to) (defBody s_cut_to) (defScope s_cut_to) .none kV_38 dc_38 pm_38 an_38 cd_38 ct_38), sl_38⟩)
    (c_38 : PySem.W.codeIn K cd_38 "cut_to" = true)
    (k_38 : PySem.W.keepIn K (.ref f_38) = true)
    (a_39 : PySem.W.nsIn K mainGlobals "fits" = some (some (.ref f_39)))
    (l_39 : K.lookup f_39 = some ⟨oc_39, od_39, .func (PySem.W.fnOf "fits" "fits" (defArgs s_fits) (defBody s_fits) (defScope s_fits) .none kV_39 dc_39 pm_39 an_39 cd_39 ct_39), sl_39⟩)
    (c_39 : PySem.W.codeIn K cd_39 "fits" = true)
    (k_39 : PySem.W.keepIn K (.ref f_39) = true)
    (a_40 : PySem.W.nsIn K mainGlobals "_law_some_right" = some (some (.ref f_40)))
    (l_40 : K.lookup f_40 = some ⟨oc_40, od_40, .func (PySem.W.fnOf "_law_some_right" "_law_some_right" (defArgs s__law_some_right) (defBody s__law_some_right) (defScope s__law_some_right) .none kV_40 dc_40 pm_40 an_40 cd_40 ct_40), sl_40⟩)
    (c_40 : PySem.W.codeIn K cd_40 "_law_some_right" = true)
    (k_40 : PySem.W.keepIn K (.ref f_40) = true)
    (a_41 : PySem.W.nsIn K mainGlobals "spread_by" = some (some (.ref f_41)))
    (l_41 : K.lookup f_41 = some ⟨oc_41, od_41, .func (PySem.W.fnOf "spread_by" "spread_by" (defArgs s_spread_by) (defBody s_spread_by) (defScope s_spread_by) .none kV_41 dc_41 pm_41 an_41 cd_41 ct_41), sl_41⟩)
    (c_41 : PySem.W.codeIn K cd_41 "spread_by" = true)
    (k_41 : PySem.W.keepIn K (.ref f_41) = true)
    (a_42 : PySem.W.nsIn K mainGlobals "spread" = some (some (.ref f_42)))
    (l_42 : K.lookup f_42 = some ⟨oc_42, od_42, .func (PySem.W.fnOf "spread" "spread" (defArgs s_spread) (defBody s_spread) (defScope s_spread) .none kV_42 dc_42 pm_42 an_42 cd_42 ct_42), sl_42⟩)
    (c_42 : PySem.W.codeIn K cd_42 "spread" = true)
    (k_42 : PySem.W.keepIn K (.ref f_42) = true)
    (a_43 : PySem.W.nsIn K mainGlobals "layings_many" = some (some (.ref f_43)))
    (l_43 : K.lookup f_43 = some ⟨oc_43, od_43, .func (PySem.W.fnOf "layings_many" "layings_many" (defArgs s_layings_many) (defBody s_layings_many) (defScope s_layings_many) .none kV_43 dc_43 pm_43 an_43 cd_43 ct_43), sl_43⟩)
    (c_43 : PySem.W.codeIn K cd_43 "layings_many" = true)
    (k_43 : PySem.W.keepIn K (.ref f_43) = true)
    (a_44 : PySem.W.nsIn K mainGlobals "tight" = some (some (.ref f_44)))
    (l_44 : K.lookup f_44 = some ⟨oc_44, od_44, .func (PySem.W.fnOf "tight" "tight" (defArgs s_tight) (defBody s_tight) (defScope s_tight) .none kV_44 dc_44 pm_44 an_44 cd_44 ct_44), sl_44⟩)
    (c_44 : PySem.W.codeIn K cd_44 "tight" = true)
    (k_44 : PySem.W.keepIn K (.ref f_44) = true)
    (a_45 : PySem.W.nsIn K mainGlobals "is_laid" = some (some (.ref f_45)))
    (l_45 : K.lookup f_45 = some ⟨oc_45, od_45, .func (PySem.W.fnOf "is_laid" "is_laid" (defArgs s_is_laid) (defBody s_is_laid) (defScope s_is_laid) .none kV_45 dc_45 pm_45 an_45 cd_45 ct_45), sl_45⟩)
    (c_45 : PySem.W.codeIn K cd_45 "is_laid" = true)
    (k_45 : PySem.W.keepIn K (.ref f_45) = true)
    (a_46 : PySem.W.nsIn K mainGlobals "is_laying" = some (some (.ref f_46)))
    (l_46 : K.lookup f_46 = some ⟨oc_46, od_46, .func (PySem.W.fnOf "is_laying" "is_laying" (defArgs s_is_laying) (defBody s_is_laying) (defScope s_is_laying) .none kV_46 dc_46 pm_46 an_46 cd_46 ct_46), sl_46⟩)
    (c_46 : PySem.W.codeIn K cd_46 "is_laying" = true)
    (k_46 : PySem.W.keepIn K (.ref f_46) = true)
    (a_47 : PySem.W.nsIn K mainGlobals "_law_one_right" = some (some (.ref f_47)))
    (l_47 : K.lookup f_47 = some ⟨oc_47, od_47, .func (PySem.W.fnOf "_law_one_right" "_law_one_right" (defArgs s__law_one_right) (defBody s__law_one_right) (defScope s__law_one_right) .none kV_47 dc_47 pm_47 an_47 cd_47 ct_47), sl_47⟩)
    (c_47 : PySem.W.codeIn K cd_47 "_law_one_right" = true)
    (k_47 : PySem.W.keepIn K (.ref f_47) = true)
    (a_48 : PySem.W.nsIn K mainGlobals "_law_spans" = some (some (.ref f_48)))
    (l_48 : K.lookup f_48 = some ⟨oc_48, od_48, .func (PySem.W.fnOf "_law_spans" "_law_spans" (defArgs s__law_spans) (defBody s__law_spans) (defScope s__law_spans) .none kV_48 dc_48 pm_48 an_48 cd_48 ct_48), sl_48⟩)
    (c_48 : PySem.W.codeIn K cd_48 "_law_spans" = true)
    (k_48 : PySem.W.keepIn K (.ref f_48) = true)
    (a_49 : PySem.W.nsIn K mainGlobals "law" = some (some (.ref f_49)))
    (l_49 : K.lookup f_49 = some ⟨oc_49, od_49, .func (PySem.W.fnOf "law" "law" (defArgs s_law) (defBody s_law) (defScope s_law) .none kV_49 dc_49 pm_49 an_49 cd_49 ct_49), sl_49⟩)
    (c_49 : PySem.W.codeIn K cd_49 "law" = true)
    (k_49 : PySem.W.keepIn K (.ref f_49) = true)
    (z_all : PySem.W.nsIn K mainGlobals "all" = some none)
    (z_bool : PySem.W.nsIn K mainGlobals "bool" = some none)
    (z_enumerate : PySem.W.nsIn K mainGlobals "enumerate" = some none)
    (z_int : PySem.W.nsIn K mainGlobals "int" = some none)
    (z_isinstance : PySem.W.nsIn K mainGlobals "isinstance" = some none)
    (z_len : PySem.W.nsIn K mainGlobals "len" = some none)
    (z_list : PySem.W.nsIn K mainGlobals "list" = some none)
    (z_max : PySem.W.nsIn K mainGlobals "max" = some none)
    (z_min : PySem.W.nsIn K mainGlobals "min" = some none)
    (z_range : PySem.W.nsIn K mainGlobals "range" = some none)
    (z_sorted : PySem.W.nsIn K mainGlobals "sorted" = some none)
    (z_sum : PySem.W.nsIn K mainGlobals "sum" = some none)
    (z_tuple : PySem.W.nsIn K mainGlobals "tuple" = some none)
    (z_zip : PySem.W.nsIn K mainGlobals "zip" = some none)
    (a_MOST_JOINT : PySem.W.nsIn K mainGlobals "MOST_JOINT" = some (some (.int 9 t_MOST_JOINT)))
    (a_MOST_SPAN : PySem.W.nsIn K mainGlobals "MOST_SPAN" = some (some (.int 80 t_MOST_SPAN)))
    (a_MOST_SPANS : PySem.W.nsIn K mainGlobals "MOST_SPANS" = some (some (.int 6 t_MOST_SPANS)))
    (a_MOST_STONE : PySem.W.nsIn K mainGlobals "MOST_STONE" = some (some (.int 20 t_MOST_STONE)))
    (a_MOST_STONES : PySem.W.nsIn K mainGlobals "MOST_STONES" = some (some (.int 12 t_MOST_STONES))) :
    ∃ (fd : FuncData), (∀ (s : Shared) (v : Value), BindsTo s fd ⟨[v], []⟩ [("_law_script", v)]) ∧ ∀ base : Heap, K.In base → base.Ns mainGlobals mg → Fnk ⟨P, w, K, mg, base⟩ false 9 fa fd ["_law_script"] m_law := by
  have e := hfa.symm.trans (PySem.W.mg_of X G a_49)
  cases e
  refine ⟨PySem.W.fnOf "law" "law" (defArgs s_law) (defBody s_law) (defScope s_law) .none kV_49 dc_49 pm_49 an_49 cd_49 ct_49, fun s v => .of_eq rfl, fun base _ _ => ?_⟩
  have T : Hs ⟨P, w, K, mg, base⟩ := ⟨PySem.W.mg_none_of X G z_all,
    PySem.W.mg_none_of X G z_bool,
    PySem.W.mg_none_of X G z_enumerate,
    PySem.W.mg_none_of X G z_int,
    PySem.W.mg_none_of X G z_isinstance,
    PySem.W.mg_none_of X G z_len,
    PySem.W.mg_none_of X G z_list,
    PySem.W.mg_none_of X G z_max,
    PySem.W.mg_none_of X G z_min,
    PySem.W.mg_none_of X G z_range,
    PySem.W.mg_none_of X G z_sorted,
    PySem.W.mg_none_of X G z_sum,
    PySem.W.mg_none_of X G z_tuple,
    PySem.W.mg_none_of X G z_zip,
    gw_of X G a_MOST_JOINT wr_int,
    gw_of X G a_MOST_SPAN wr_int,
    gw_of X G a_MOST_SPANS wr_int,
    gw_of X G a_MOST_STONE wr_int,
    gw_of X G a_MOST_STONES wr_int⟩
  have h__law_pen_of := h__law_pen_of T  (top_mk (M := ⟨P, w, K, mg, base⟩) X G a_0 l_0 c_0 k_0 (fun us hl => match us, hl with | [_], _ => rfl))
  have h__law_cell_at := h__law_cell_at T  (top_mk (M := ⟨P, w, K, mg, base⟩) X G a_1 l_1 c_1 k_1 (fun us hl => match us, hl with | [_, _], _ => rfl))
  have h__law_next := h__law_next T  (top_mk (M := ⟨P, w, K, mg, base⟩) X G a_2 l_2 c_2 k_2 (fun us hl => match us, hl with | [_], _ => rfl))
  have h__law_draw := h__law_draw T h__law_next (top_mk (M := ⟨P, w, K, mg, base⟩) X G a_3 l_3 c_3 k_3 (fun us hl => match us, hl with | [_, _], _ => rfl))
  have h__law_longs := h__law_longs T h__law_draw (top_mk (M := ⟨P, w, K, mg, base⟩) X G a_4 l_4 c_4 k_4 (fun us hl => match us, hl with | [_, _], _ => rfl))
  have h__law_joints := h__law_joints T h__law_draw (top_mk (M := ⟨P, w, K, mg, base⟩) X G a_5 l_5 c_5 k_5 (fun us hl => match us, hl with | [_], _ => rfl))
  have h__law_span := h__law_span T h__law_draw (top_mk (M := ⟨P, w, K, mg, base⟩) X G a_6 l_6 c_6 k_6 (fun us hl => match us, hl with | [_, _, _], _ => rfl))
  have h_is_whole := h_is_whole T  (top_mk (M := ⟨P, w, K, mg, base⟩) X G a_7 l_7 c_7 k_7 (fun us hl => match us, hl with | [_], _ => rfl))
  have h_is_from_to := h_is_from_to T h_is_whole (top_mk (M := ⟨P, w, K, mg, base⟩) X G a_8 l_8 c_8 k_8 (fun us hl => match us, hl with | [_, _, _], _ => rfl))
  have h_are_longs := h_are_longs T h_is_from_to (top_mk (M := ⟨P, w, K, mg, base⟩) X G a_9 l_9 c_9 k_9 (fun us hl => match us, hl with | [_], _ => rfl))
  have h_need_longs := h_need_longs T h_are_longs (top_mk (M := ⟨P, w, K, mg, base⟩) X G a_10 l_10 c_10 k_10 (fun us hl => match us, hl with | [_], _ => rfl))
  have h_is_span := h_is_span T h_is_from_to (top_mk (M := ⟨P, w, K, mg, base⟩) X G a_11 l_11 c_11 k_11 (fun us hl => match us, hl with | [_], _ => rfl))
  have h_need_spans := h_need_spans T h_is_span (top_mk (M := ⟨P, w, K, mg, base⟩) X G a_12 l_12 c_12 k_12 (fun us hl => match us, hl with | [_], _ => rfl))
  have h_are_joints := h_are_joints T h_is_from_to (top_mk (M := ⟨P, w, K, mg, base⟩) X G a_13 l_13 c_13 k_13 (fun us hl => match us, hl with | [_], _ => rfl))
  have h_need_joints := h_need_joints T h_are_joints (top_mk (M := ⟨P, w, K, mg, base⟩) X G a_14 l_14 c_14 k_14 (fun us hl => match us, hl with | [_], _ => rfl))
  have h_need_some := h_need_some T h_need_joints h_need_longs h_need_spans (top_mk (M := ⟨P, w, K, mg, base⟩) X G a_15 l_15 c_15 k_15 (fun us hl => match us, hl with | [_, _, _], _ => rfl))
  have h_rest_of := h_rest_of T  (top_mk (M := ⟨P, w, K, mg, base⟩) X G a_16 l_16 c_16 k_16 (fun us hl => match us, hl with | [_, _], _ => rfl))
  have h_most_off := h_most_off T  (top_mk (M := ⟨P, w, K, mg, base⟩) X G a_17 l_17 c_17 k_17 (fun us hl => match us, hl with | [_, _], _ => rfl))
  have h_cut_by := h_cut_by T h_most_off h_rest_of (top_mk (M := ⟨P, w, K, mg, base⟩) X G a_18 l_18 c_18 k_18 (fun us hl => match us, hl with | [_, _, _], _ => rfl))
  have h_cuts_in := h_cuts_in T h_cut_by (top_mk (M := ⟨P, w, K, mg, base⟩) X G a_19 l_19 c_19 k_19 (fun us hl => match us, hl with | [_, _, _], _ => rfl))
  have h_fit := h_fit T h_rest_of (top_mk (M := ⟨P, w, K, mg, base⟩) X G a_20 l_20 c_20 k_20 (fun us hl => match us, hl with | [_, _, _], _ => rfl))
  have h_ways_on := h_ways_on T h_cuts_in h_fit (top_mk (M := ⟨P, w, K, mg, base⟩) X G a_21 l_21 c_21 k_21 (fun us hl => match us, hl with | [_, _, _, _, _, _], _ => rfl))
  have h_levels_by := h_levels_by T h_ways_on (top_mk (M := ⟨P, w, K, mg, base⟩) X G a_22 l_22 c_22 k_22 (fun us hl => match us, hl with | [_, _, _], _ => rfl))
  have h_levels := h_levels T h_levels_by h_need_some (top_mk (M := ⟨P, w, K, mg, base⟩) X G a_23 l_23 c_23 k_23 (fun us hl => match us, hl with | [_, _, _], _ => rfl))
  have h_need_bound := h_need_bound T h_is_whole h_need_some (top_mk (M := ⟨P, w, K, mg, base⟩) X G a_24 l_24 c_24 k_24 (fun us hl => match us, hl with | [_, _, _, _], _ => rfl))
  have h_is_mark_row := h_is_mark_row T h_is_whole (top_mk (M := ⟨P, w, K, mg, base⟩) X G a_25 l_25 c_25 k_25 (fun us hl => match us, hl with | [_, _], _ => rfl))
  have h_marks_hold := h_marks_hold T h_is_mark_row h_need_bound h_ways_on (top_mk (M := ⟨P, w, K, mg, base⟩) X G a_26 l_26 c_26 k_26 (fun us hl => match us, hl with | [_, _, _, _, _], _ => rfl))
  have h_best_from := h_best_from T h_ways_on (top_mk (M := ⟨P, w, K, mg, base⟩) X G a_27 l_27 c_27 k_27 (fun us hl => match us, hl with | [_, _, _, _], _ => rfl))
  have h_parting := h_parting T h_best_from h_need_some (top_mk (M := ⟨P, w, K, mg, base⟩) X G a_28 l_28 c_28 k_28 (fun us hl => match us, hl with | [_, _, _], _ => rfl))
  have h_fewest_cuts := h_fewest_cuts T h_best_from h_need_some (top_mk (M := ⟨P, w, K, mg, base⟩) X G a_29 l_29 c_29 k_29 (fun us hl => match us, hl with | [_, _, _], _ => rfl))
  have h_is_told := h_is_told T h_is_whole (top_mk (M := ⟨P, w, K, mg, base⟩) X G a_30 l_30 c_30 k_30 (fun us hl => match us, hl with | [_, _], _ => rfl))
  have h_levels_hold := h_levels_hold T h_is_told h_levels_by h_need_some (top_mk (M := ⟨P, w, K, mg, base⟩) X G a_31 l_31 c_31 k_31 (fun us hl => match us, hl with | [_, _, _, _], _ => rfl))
  have h__law_runs := h__law_runs T  (top_mk (M := ⟨P, w, K, mg, base⟩) X G a_32 l_32 c_32 k_32 (fun us hl => match us, hl with | [_, _], _ => rfl))
  have h_cut_marks := h_cut_marks T h_need_bound h_ways_on (top_mk (M := ⟨P, w, K, mg, base⟩) X G a_33 l_33 c_33 k_33 (fun us hl => match us, hl with | [_, _, _, _], _ => rfl))
  have h_stuck := h_stuck T h_levels_by h_need_some (top_mk (M := ⟨P, w, K, mg, base⟩) X G a_34 l_34 c_34 k_34 (fun us hl => match us, hl with | [_, _, _], _ => rfl))
  have h__law_cuts := h__law_cuts T  (top_mk (M := ⟨P, w, K, mg, base⟩) X G a_35 l_35 c_35 k_35 (fun us hl => match us, hl with | [_, _], _ => rfl))
  have h_need_span := h_need_span T h_is_span (top_mk (M := ⟨P, w, K, mg, base⟩) X G a_36 l_36 c_36 k_36 (fun us hl => match us, hl with | [_], _ => rfl))
  have h_need_all := h_need_all T h_need_joints h_need_longs h_need_span (top_mk (M := ⟨P, w, K, mg, base⟩) X G a_37 l_37 c_37 k_37 (fun us hl => match us, hl with | [_, _, _], _ => rfl))
  have h_cut_to := h_cut_to T h_cut_by h_need_all (top_mk (M := ⟨P, w, K, mg, base⟩) X G a_38 l_38 c_38 k_38 (fun us hl => match us, hl with | [_, _, _], _ => rfl))
  have h_fits := h_fits T h_fit h_need_all (top_mk (M := ⟨P, w, K, mg, base⟩) X G a_39 l_39 c_39 k_39 (fun us hl => match us, hl with | [_, _, _], _ => rfl))
  have h__law_some_right := h__law_some_right T h__law_cuts h__law_runs h_cut_marks h_cut_to h_fewest_cuts h_fits h_levels h_levels_hold h_marks_hold h_parting h_stuck (top_mk (M := ⟨P, w, K, mg, base⟩) X G a_40 l_40 c_40 k_40 (fun us hl => match us, hl with | [_, _, _], _ => rfl))
  have h_spread_by := h_spread_by T h_rest_of (top_mk (M := ⟨P, w, K, mg, base⟩) X G a_41 l_41 c_41 k_41 (fun us hl => match us, hl with | [_, _], _ => rfl))
  have h_spread := h_spread T h_fit h_need_all h_spread_by (top_mk (M := ⟨P, w, K, mg, base⟩) X G a_42 l_42 c_42 k_42 (fun us hl => match us, hl with | [_, _, _], _ => rfl))
  have h_layings_many := h_layings_many T h_need_all h_rest_of (top_mk (M := ⟨P, w, K, mg, base⟩) X G a_43 l_43 c_43 k_43 (fun us hl => match us, hl with | [_, _, _], _ => rfl))
  have h_tight := h_tight T h_fit h_need_all h_rest_of (top_mk (M := ⟨P, w, K, mg, base⟩) X G a_44 l_44 c_44 k_44 (fun us hl => match us, hl with | [_, _, _], _ => rfl))
  have h_is_laid := h_is_laid T h_is_from_to (top_mk (M := ⟨P, w, K, mg, base⟩) X G a_45 l_45 c_45 k_45 (fun us hl => match us, hl with | [_, _, _, _], _ => rfl))
  have h_is_laying := h_is_laying T h_is_laid h_need_all (top_mk (M := ⟨P, w, K, mg, base⟩) X G a_46 l_46 c_46 k_46 (fun us hl => match us, hl with | [_, _, _, _], _ => rfl))
  have h__law_one_right := h__law_one_right T h_cut_to h_fits h_is_laying h_layings_many h_spread h_tight (top_mk (M := ⟨P, w, K, mg, base⟩) X G a_47 l_47 c_47 k_47 (fun us hl => match us, hl with | [_, _, _], _ => rfl))
  have h__law_spans := h__law_spans T h__law_draw h__law_span (top_mk (M := ⟨P, w, K, mg, base⟩) X G a_48 l_48 c_48 k_48 (fun us hl => match us, hl with | [_, _, _], _ => rfl))
  exact fnk_of l_49 c_49 sc_law t_law rfl rfl (fun X c => b_law T h__law_cell_at h__law_draw h__law_joints h__law_longs h__law_one_right h__law_pen_of h__law_some_right h__law_span h__law_spans c)
end PV

open PySem PySem.W PyProof.Rows
set_option maxRecDepth 100000 in
set_option maxHeartbeats 0 in
theorem PySem.Challenge.cw_bentstones_k28_whole_stones_fit_when_cut_holds : PySem.Challenge.rw_bentstones_k28_whole_stones_fit_when_cut.Holds := by
  w_on; o_law; k_head; (case hw => w_witness2)
  k_fill
  letI : PV.Tbl := ⟨[]⟩
  refine PV.walk_run rfl (g := false) (l := PySem.Challenge.rw_bentstones_k28_whole_stones_fit_when_cut) (n := 63) (k := 9) (x := "_law_script") (mf := PV.m_law) rfl (by decide) rfl ⟨rfl, by decide, by decide⟩ (fun w h Y => PySem.W.kIn_of Y) ?F PV.law_ok
  case F =>
    intro w mg fa h KX G hmg
    refine' PV.all_mk KX G hmg ?a_0 ?l_0 ?c_0 ?k_0 ?a_1 ?l_1 ?c_1 ?k_1 ?a_2 ?l_2 ?c_2 ?k_2 ?a_3 ?l_3 ?c_3 ?k_3 ?a_4 ?l_4 ?c_4 ?k_4 ?a_5 ?l_5 ?c_5 ?k_5 ?a_6 ?l_6 ?c_6 ?k_6 ?a_7 ?l_7 ?c_7 ?k_7 ?a_8 ?l_8 ?c_8 ?k_8 ?a_9 ?l_9 ?c_9 ?k_9 ?a_10 ?l_10 ?c_10 ?k_10 ?a_11 ?l_11 ?c_11 ?k_11 ?a_12 ?l_12 ?c_12 ?k_12 ?a_13 ?l_13 ?c_13 ?k_13 ?a_14 ?l_14 ?c_14 ?k_14 ?a_15 ?l_15 ?c_15 ?k_15 ?a_16 ?l_16 ?c_16 ?k_16 ?a_17 ?l_17 ?c_17 ?k_17 ?a_18 ?l_18 ?c_18 ?k_18 ?a_19 ?l_19 ?c_19 ?k_19 ?a_20 ?l_20 ?c_20 ?k_20 ?a_21 ?l_21 ?c_21 ?k_21 ?a_22 ?l_22 ?c_22 ?k_22 ?a_23 ?l_23 ?c_23 ?k_23 ?a_24 ?l_24 ?c_24 ?k_24 ?a_25 ?l_25 ?c_25 ?k_25 ?a_26 ?l_26 ?c_26 ?k_26 ?a_27 ?l_27 ?c_27 ?k_27 ?a_28 ?l_28 ?c_28 ?k_28 ?a_29 ?l_29 ?c_29 ?k_29 ?a_30 ?l_30 ?c_30 ?k_30 ?a_31 ?l_31 ?c_31 ?k_31 ?a_32 ?l_32 ?c_32 ?k_32 ?a_33 ?l_33 ?c_33 ?k_33 ?a_34 ?l_34 ?c_34 ?k_34 ?a_35 ?l_35 ?c_35 ?k_35 ?a_36 ?l_36 ?c_36 ?k_36 ?a_37 ?l_37 ?c_37 ?k_37 ?a_38 ?l_38 ?c_38 ?k_38 ?a_39 ?l_39 ?c_39 ?k_39 ?a_40 ?l_40 ?c_40 ?k_40 ?a_41 ?l_41 ?c_41 ?k_41 ?a_42 ?l_42 ?c_42 ?k_42 ?a_43 ?l_43 ?c_43 ?k_43 ?a_44 ?l_44 ?c_44 ?k_44 ?a_45 ?l_45 ?c_45 ?k_45 ?a_46 ?l_46 ?c_46 ?k_46 ?a_47 ?l_47 ?c_47 ?k_47 ?a_48 ?l_48 ?c_48 ?k_48 ?a_49 ?l_49 ?c_49 ?k_49 ?z_all ?z_bool ?z_enumerate ?z_int ?z_isinstance ?z_len ?z_list ?z_max ?z_min ?z_range ?z_sorted ?z_sum ?z_tuple ?z_zip ?a_MOST_JOINT ?a_MOST_SPAN ?a_MOST_SPANS ?a_MOST_STONE ?a_MOST_STONES
    (case a_0 => k_is); (case l_0 => k_is); (case c_0 => k_is); (case k_0 => k_is); (case a_1 => k_is); (case l_1 => k_is); (case c_1 => k_is); (case k_1 => k_is); (case a_2 => k_is); (case l_2 => k_is); (case c_2 => k_is); (case k_2 => k_is); (case a_3 => k_is); (case l_3 => k_is); (case c_3 => k_is); (case k_3 => k_is); (case a_4 => k_is); (case l_4 => k_is); (case c_4 => k_is); (case k_4 => k_is); (case a_5 => k_is); (case l_5 => k_is); (case c_5 => k_is); (case k_5 => k_is); (case a_6 => k_is); (case l_6 => k_is); (case c_6 => k_is); (case k_6 => k_is); (case a_7 => k_is); (case l_7 => k_is); (case c_7 => k_is); (case k_7 => k_is); (case a_8 => k_is); (case l_8 => k_is); (case c_8 => k_is); (case k_8 => k_is); (case a_9 => k_is); (case l_9 => k_is); (case c_9 => k_is); (case k_9 => k_is); (case a_10 => k_is); (case l_10 => k_is); (case c_10 => k_is); (case k_10 => k_is); (case a_11 => k_is); (case l_11 => k_is); (case c_11 => k_is); (case k_11 => k_is); (case a_12 => k_is); (case l_12 => k_is); (case c_12 => k_is); (case k_12 => k_is); (case a_13 => k_is); (case l_13 => k_is); (case c_13 => k_is); (case k_13 => k_is); (case a_14 => k_is); (case l_14 => k_is); (case c_14 => k_is); (case k_14 => k_is); (case a_15 => k_is); (case l_15 => k_is); (case c_15 => k_is); (case k_15 => k_is); (case a_16 => k_is); (case l_16 => k_is); (case c_16 => k_is); (case k_16 => k_is); (case a_17 => k_is); (case l_17 => k_is); (case c_17 => k_is); (case k_17 => k_is); (case a_18 => k_is); (case l_18 => k_is); (case c_18 => k_is); (case k_18 => k_is); (case a_19 => k_is); (case l_19 => k_is); (case c_19 => k_is); (case k_19 => k_is); (case a_20 => k_is); (case l_20 => k_is); (case c_20 => k_is); (case k_20 => k_is); (case a_21 => k_is); (case l_21 => k_is); (case c_21 => k_is); (case k_21 => k_is); (case a_22 => k_is); (case l_22 => k_is); (case c_22 => k_is); (case k_22 => k_is); (case a_23 => k_is); (case l_23 => k_is); (case c_23 => k_is); (case k_23 => k_is); (case a_24 => k_is); (case l_24 => k_is); (case c_24 => k_is); (case k_24 => k_is); (case a_25 => k_is); (case l_25 => k_is); (case c_25 => k_is); (case k_25 => k_is); (case a_26 => k_is); (case l_26 => k_is); (case c_26 => k_is); (case k_26 => k_is); (case a_27 => k_is); (case l_27 => k_is); (case c_27 => k_is); (case k_27 => k_is); (case a_28 => k_is); (case l_28 => k_is); (case c_28 => k_is); (case k_28 => k_is); (case a_29 => k_is); (case l_29 => k_is); (case c_29 => k_is); (case k_29 => k_is); (case a_30 => k_is); (case l_30 => k_is); (case c_30 => k_is); (case k_30 => k_is); (case a_31 => k_is); (case l_31 => k_is); (case c_31 => k_is); (case k_31 => k_is); (case a_32 => k_is); (case l_32 => k_is); (case c_32 => k_is); (case k_32 => k_is); (case a_33 => k_is); (case l_33 => k_is); (case c_33 => k_is); (case k_33 => k_is); (case a_34 => k_is); (case l_34 => k_is); (case c_34 => k_is); (case k_34 => k_is); (case a_35 => k_is); (case l_35 => k_is); (case c_35 => k_is); (case k_35 => k_is); (case a_36 => k_is); (case l_36 => k_is); (case c_36 => k_is); (case k_36 => k_is); (case a_37 => k_is); (case l_37 => k_is); (case c_37 => k_is); (case k_37 => k_is); (case a_38 => k_is); (case l_38 => k_is); (case c_38 => k_is); (case k_38 => k_is); (case a_39 => k_is); (case l_39 => k_is); (case c_39 => k_is); (case k_39 => k_is); (case a_40 => k_is); (case l_40 => k_is); (case c_40 => k_is); (case k_40 => k_is); (case a_41 => k_is); (case l_41 => k_is); (case c_41 => k_is); (case k_41 => k_is); (case a_42 => k_is); (case l_42 => k_is); (case c_42 => k_is); (case k_42 => k_is); (case a_43 => k_is); (case l_43 => k_is); (case c_43 => k_is); (case k_43 => k_is); (case a_44 => k_is); (case l_44 => k_is); (case c_44 => k_is); (case k_44 => k_is); (case a_45 => k_is); (case l_45 => k_is); (case c_45 => k_is); (case k_45 => k_is); (case a_46 => k_is); (case l_46 => k_is); (case c_46 => k_is); (case k_46 => k_is); (case a_47 => k_is); (case l_47 => k_is); (case c_47 => k_is); (case k_47 => k_is); (case a_48 => k_is); (case l_48 => k_is); (case c_48 => k_is); (case k_48 => k_is); (case a_49 => k_is); (case l_49 => k_is); (case c_49 => k_is); (case k_49 => k_is); (case z_all => k_is); (case z_bool => k_is); (case z_enumerate => k_is); (case z_int => k_is); (case z_isinstance => k_is); (case z_len => k_is); (case z_list => k_is); (case z_max => k_is); (case z_min => k_is); (case z_range => k_is); (case z_sorted => k_is); (case z_sum => k_is); (case z_tuple => k_is); (case z_zip => k_is); (case a_MOST_JOINT => k_is); (case a_MOST_SPAN => k_is); (case a_MOST_SPANS => k_is); (case a_MOST_STONE => k_is); (case a_MOST_STONES => k_is)
