import PyProof.Rows.All
import Wide.All
import OpenK.AllK
import Wide.FinOn
import HandS.ForMost
import HandS.Walk
import HandS.ExcOwn
import HandS.WordsExc
import HandS.Lambda
import HandS.HotCalls
import HandS.ExcField
import HandS.ExcIs
import HandS.ExcInit
import HandS.TryOnly
import KE.KExcIs
import KE.KIsAll
import HandS.EndTab
import HandS.TupLen
import HandS.DictTup
import KE.DataEq
import KE.DataFind
import KE.DataIsa
import KE.DataCmp
import KE.SortData
import HandS.Flow
import HandS.TupAny
import HandS.TupMul
import HandS.Style
import HandS.Wide
import HandS.Codes
import KE.DataAny
import KE.DataMinMax
import KE.DatumIndex
import HandS.Strs
import KE.KTupSum
import KE.GoesNew
import HandS.Small
import PyProof.FitsInt
import HandS.SortKw
import PyProof.TupleOfSeq
import HandS.Conv
import KE.DatumOrd
import HandS.More
import HandS.RaiseMore
import KE.KDictPairs
import HandS.Exc
import KE.SortKeyHeap
import KE.KItemsList
import HandS.WideBits
import HandS.SetFor
import PySem.Challenge.RW_bentstones_k45_whole_rows
set_option Elab.async false
set_option autoImplicit false
set_option linter.all false
set_option maxRecDepth 100000
set_option maxHeartbeats 4000000
namespace PV
open PySem PySem.Spec PyProof.Rows L2
section
/-! ## results, values, the store -/
/-- the tuples that the module's top has written, with those within -/
class Wtp where
  W : List PyData
inductive Wv where
  | d (x : PyData)
  | r (i : Nat)
  /-- the exception that is handled -/
  | x (a : Addr) (c : Str) (d : Option (Addr × List (Str × PyData)))
inductive Ob where
  | lst (xs : List PyData)
  | dct (kvs : List (PyData × PyData))
  /-- a dict whose keys are tuples -/
  | dtt (kvs : List (PyData × PyData))
  /-- a dict that is pinned: nobody writes it any more -/
  | lkd (es : List (PyData × PyData))
  /-- a list that is pinned -/
  | lkl (xs : List PyData)
abbrev Sto := List Ob
abbrev En := List (Option Wv)
structure Xc where
  name : Str
  fs : List (Str × PyData)
inductive Rs (α : Type) where
  | ok (a : α) (st : Sto)
  | ex (e : Xc) (st : Sto)
  | no
namespace Rs
variable {α β : Type}
def bind (x : Rs α) (f : α → Sto → Rs β) : Rs β := match x with
  | .ok a st => f a st
  | .ex e st => .ex e st
  | .no => .no
/-- what holds at the end -/
def post (x : Rs α) (Q : α → Sto → Prop) (W : Xc → Sto → Prop) : Prop := match x with
  | .ok a st => Q a st
  | .ex e st => W e st
  | .no => False
@[simp] theorem bind_ok (a : α) (st : Sto) (f : α → Sto → Rs β) : (Rs.ok a st).bind f = f a st := rfl
@[simp] theorem bind_ex (e : Xc) (st : Sto) (f : α → Sto → Rs β) : (Rs.ex e st : Rs α).bind f = .ex e st := rfl
@[simp] theorem bind_no (f : α → Sto → Rs β) : (Rs.no : Rs α).bind f = .no := rfl
@[simp] theorem post_ok (a : α) (st : Sto) (Q : α → Sto → Prop) (W : Xc → Sto → Prop) : (Rs.ok a st).post Q W = Q a st := rfl
@[simp] theorem post_ex (e : Xc) (st : Sto) (Q : α → Sto → Prop) (W : Xc → Sto → Prop) : (Rs.ex e st : Rs α).post Q W = W e st := rfl
@[simp] theorem post_no (Q : α → Sto → Prop) (W : Xc → Sto → Prop) : (Rs.no : Rs α).post Q W = False := rfl
theorem post_bind (x : Rs α) (f : α → Sto → Rs β) (Q : β → Sto → Prop) (W : Xc → Sto → Prop) : (x.bind f).post Q W = x.post (fun a st => (f a st).post Q W) W := by cases x <;> rfl
theorem post_mono {x : Rs α} {Q Q' : α → Sto → Prop} {W W' : Xc → Sto → Prop} (h : x.post Q W) (hQ : ∀ a st, Q a st → Q' a st) (hW : ∀ e st, W e st → W' e st) : x.post Q' W' := by
  cases x with
  | ok a st => exact hQ a st h
  | ex e st => exact hW e st h
  | no => exact h
end Rs
/-- a value as data, as it is now -/
def look (st : Sto) : Wv → Option PyData
  | .d x => some x
  | .r i => match st[i]? with
    | some (.lst xs) => some (.list xs)
    | some (.dct kvs) => some (.dict kvs)
    | some (.dtt kvs) => some (.dict kvs)
    | some (.lkd kvs) => some (.dict kvs)
    | some (.lkl xs) => some (.list xs)
    | none => none
  | .x _ _ _ => none
@[simp] theorem look_d (st : Sto) (x : PyData) : look st (.d x) = some x := rfl
/-! ## data as it stands in the heap -/
abbrev Frg := PySem.W.Frag
def WrL (K : Frg) (a : Addr) (xs : List V) : Prop := ∃ (vs : Array Value) (k : Nat), K.lookup a = some { cls := .type "list", data := .seq vs k } ∧ vs.size ≤ sizeLine ∧ Vals xs vs.toList
def LsAt (K : Frg) (H : Hp) (Z : Addr → Prop) (a : Addr) (xs : List V) : Prop := (H a = some (.lst xs) ∧ Z a) ∨ (∃ o, H a = some (.frz o (.lst xs))) ∨ WrL K a xs
theorem LsAt.sq {K : Frg} {H : Hp} {Z : Addr → Prop} {a : Addr} {xs : List V} (h : LsAt K H Z a xs) : SqL K H a xs := by
  rcases h with ⟨h, _⟩ | ⟨o, h⟩ | h
  · exact .inl (.inl h)
  · exact .inl (.inr ⟨o, h⟩)
  · obtain ⟨vs, k, h1, h2, h3⟩ := h
    exact .inr ⟨_, vs, k, h1, rfl, rfl, rfl, h2, h3⟩
/-- a list, whoever holds it -/
abbrev LsX (K : Frg) (H : Hp) (a : Addr) (xs : List V) : Prop := LsAt K H (fun _ => True) a xs
theorem LsAt.x {K : Frg} {H : Hp} {Z : Addr → Prop} {a : Addr} {xs : List V} (h : LsAt K H Z a xs) : LsX K H a xs := by
  rcases h with ⟨h, _⟩ | h | h
  · exact .inl ⟨h, trivial⟩
  · exact .inr (.inl h)
  · exact .inr (.inr h)
theorem Inv.lsx {X : Cx} {pins : List (Addr × Obj)} {σ : L2.St} {H : Hp} {s : Shared} {Z : Addr → Prop} {a : Addr} {xs : List V} (I : Inv X pins σ H s) (h : LsAt X.K H Z a xs) :
    ∃ (its : List Value) (n : Nat), Vals xs its ∧ s.heap.get? a = some { cls := .type "list", data := .seq its.toArray n } ∧ xs.length ≤ sizeLine ∧ its.length = xs.length := by
  rcases h with ⟨h, _⟩ | ⟨o, h⟩ | ⟨vs, k, h1, h2, h3⟩
  · obtain ⟨z, its, n, r, e⟩ := I.hok a _ h
    exact ⟨its, n, r, e, z, r.length.symm⟩
  · obtain ⟨_, z, its, n, r, e⟩ := I.hok a _ h
    exact ⟨its, n, r, e, z, r.length.symm⟩
  · have e := h3.length
    exact ⟨vs.toList, k, h3, I.kIn a _ h1, by simp only [Array.length_toList] at e; omega, e.symm⟩
def keyD : PyData → Option Key
  | .int i => some (.inl i)
  | .str x => some (.inr x)
  | _ => none
def keysD : List PyData → Option (List Key)
  | [] => some []
  | d :: r => match keyD d, keysD r with
    | some k, some ks => some (k :: ks)
    | _, _ => none
def tkD : PyData → Option (List Key)
  | .tuple xs => keysD xs
  | _ => none
variable [Wtp]
/-- a tuple of its own, or one that the top has written -/
def TpAt (K : Frg) (H : Hp) (a : Addr) (xs : List V) (ds : List PyData) : Prop := H a = some (.tup xs) ∨ (SqT K H a xs ∧ PyData.tuple ds ∈ Wtp.W)
theorem TpAt.sq {K : Frg} {H : Hp} {a : Addr} {xs : List V} {ds : List PyData} (h : TpAt K H a xs ds) : SqT K H a xs := by
  rcases h with h | h
  · exact .inl (.inl h)
  · exact h.1
mutual
inductive Rp (K : Frg) (H : Hp) (Z : Addr → Prop) : V → PyData → Prop
  | non : Rp K H Z .non .none
  | bl (b : Bool) : Rp K H Z (.bl b) (.bool b)
  | int (i : Int) : Rp K H Z (.int i) (.int i)
  | str (x : Str) : Rp K H Z (.str x) (.str x)
  | lst {a : Addr} {xs : List V} {ds : List PyData} : LsAt K H Z a xs → RpA K H Z xs ds → Rp K H Z (.ref a) (.list ds)
  | tup {a : Addr} {xs : List V} {ds : List PyData} : TpAt K H a xs ds → RpA K H Z xs ds → Rp K H Z (.ref a) (.tuple ds)
  | dic {a : Addr} {o : Obj} {kvs : List (Key × V)} {es : List (PyData × PyData)} : H a = some (.frz o (.dK kvs)) → RpK K H Z kvs es → Rp K H Z (.ref a) (.dict es)
  | dit {a : Addr} {o : Obj} {kvs : List (List Key × V)} {es : List (PyData × PyData)} : H a = some (.frz o (.dT kvs)) → RpT K H Z kvs es → Rp K H Z (.ref a) (.dict es)
inductive RpA (K : Frg) (H : Hp) (Z : Addr → Prop) : List V → List PyData → Prop
  | nil : RpA K H Z [] []
  | cons {v : V} {vs : List V} {d : PyData} {ds : List PyData} : Rp K H Z v d → RpA K H Z vs ds → RpA K H Z (v :: vs) (d :: ds)
inductive RpK (K : Frg) (H : Hp) (Z : Addr → Prop) : List (Key × V) → List (PyData × PyData) → Prop
  | nil : RpK K H Z [] []
  | cons {k : Key} {v : V} {kvs : List (Key × V)} {c d : PyData} {es : List (PyData × PyData)} : keyD c = some k → Rp K H Z v d → RpK K H Z kvs es → RpK K H Z ((k, v) :: kvs) ((c, d) :: es)
inductive RpT (K : Frg) (H : Hp) (Z : Addr → Prop) : List (List Key × V) → List (PyData × PyData) → Prop
  | nil : RpT K H Z [] []
  | cons {k : List Key} {v : V} {kvs : List (List Key × V)} {c d : PyData} {es : List (PyData × PyData)} : tkD c = some k → Rp K H Z v d → RpT K H Z kvs es → RpT K H Z ((k, v) :: kvs) ((c, d) :: es)
end
/-- no table of code objects -/
def NT (o : HO) : Prop := ∀ ps, o ≠ .tbl ps
theorem nt_lst {xs : List V} : NT (.lst xs) := fun _ z => nomatch z
theorem nt_dK {xs : List (Key × V)} : NT (.dK xs) := fun _ z => nomatch z
theorem nt_dT {xs : List (List Key × V)} : NT (.dT xs) := fun _ z => nomatch z
/-- something stands there, and no table -/
def Nn (H : Hp) (a : Addr) : Prop := ∃ o, H a = some o ∧ NT o
theorem Nn.ne {H : Hp} {a : Addr} (h : Nn H a) : H a ≠ none := by obtain ⟨o, e, _⟩ := h; rw [e]; exact fun z => nomatch z
theorem nn_no {H : Hp} {a : Addr} (h : H a = none) : ¬ Nn H a := fun q => q.ne h
/-- a list -/
def LsO (o : HO) : Prop := ∃ xs, o = .lst xs
theorem LsO.nt {o : HO} (h : LsO o) : NT o := by obtain ⟨xs, rfl⟩ := h; exact nt_lst
/-- what data lean on is kept -/
structure Kp (K : Frg) (H : Hp) (Z : Addr → Prop) (H' : Hp) (Z' : Addr → Prop) : Prop where
  tup : ∀ a xs, H a = some (.tup xs) → H' a = some (.tup xs)
  frz : ∀ a o u, H a = some (.frz o u) → H' a = some (.frz o u)
  rest : ∀ a o, LsO o → H a = some o → Z a → H' a = some o ∧ Z' a
section
variable {K : Frg} {H H' H'' : Hp} {Z Z' Z'' : Addr → Prop}
theorem Kp.refl : Kp K H Z H Z := ⟨fun _ _ h => h, fun _ _ _ h => h, fun _ _ _ h z => ⟨h, z⟩⟩
theorem Kp.trans (p : Kp K H Z H' Z') (q : Kp K H' Z' H'' Z'') : Kp K H Z H'' Z'' :=
  ⟨fun a xs h => q.tup a xs (p.tup a xs h), fun a o u h => q.frz a o u (p.frz a o u h), fun a o nt h z => let ⟨h1, z1⟩ := p.rest a o nt h z; q.rest a o nt h1 z1⟩
theorem Kp.sqt (p : Kp K H Z H' Z') {a : Addr} {xs : List V} (h : SqT K H a xs) : SqT K H' a xs := by
  rcases h with (h | ⟨o, h⟩) | h
  · exact .inl (.inl (p.tup _ _ h))
  · exact .inl (.inr ⟨o, p.frz _ _ _ h⟩)
  · exact .inr h
theorem Kp.tp (p : Kp K H Z H' Z') {a : Addr} {xs : List V} {ds : List PyData} (h : TpAt K H a xs ds) : TpAt K H' a xs ds := by
  rcases h with h | h
  · exact .inl (p.tup _ _ h)
  · exact .inr ⟨p.sqt h.1, h.2⟩
theorem Kp.ls (p : Kp K H Z H' Z') {a : Addr} {xs : List V} (h : LsAt K H Z a xs) : LsAt K H' Z' a xs := by
  rcases h with ⟨h, z⟩ | ⟨o, h⟩ | h
  · exact .inl (p.rest _ _ ⟨_, rfl⟩ h z)
  · exact .inr (.inl ⟨o, p.frz _ _ _ h⟩)
  · exact .inr (.inr h)
mutual
theorem Rp.kp (p : Kp K H Z H' Z') : ∀ (d : PyData) (v : V), Rp K H Z v d → Rp K H' Z' v d
  | .none, _, h => by cases h; exact .non
  | .bool b, _, h => by cases h; exact .bl b
  | .int i, _, h => by cases h; exact .int i
  | .str x, _, h => by cases h; exact .str x
  | .list ds, _, h => by cases h with | lst h1 h2 => exact .lst (p.ls h1) (RpA.kp p ds _ h2)
  | .tuple ds, _, h => by cases h with | tup h1 h2 => exact .tup (p.tp h1) (RpA.kp p ds _ h2)
  | .dict es, _, h => by
    cases h with
    | dic h1 h3 => exact .dic (p.frz _ _ _ h1) (RpK.kp p es _ h3)
    | dit h1 h3 => exact .dit (p.frz _ _ _ h1) (RpT.kp p es _ h3)
theorem RpA.kp (p : Kp K H Z H' Z') : ∀ (ds : List PyData) (vs : List V), RpA K H Z vs ds → RpA K H' Z' vs ds
  | [], _, h => by cases h; exact .nil
  | d :: ds, _, h => by cases h with | cons h1 h2 => exact .cons (Rp.kp p d _ h1) (RpA.kp p ds _ h2)
theorem RpK.kp (p : Kp K H Z H' Z') : ∀ (es : List (PyData × PyData)) (kvs : List (Key × V)), RpK K H Z kvs es → RpK K H' Z' kvs es
  | [], _, h => by cases h; exact .nil
  | (c, d) :: es, _, h => by cases h with | cons h0 h1 h2 => exact .cons h0 (Rp.kp p d _ h1) (RpK.kp p es _ h2)
theorem RpT.kp (p : Kp K H Z H' Z') : ∀ (es : List (PyData × PyData)) (kvs : List (List Key × V)), RpT K H Z kvs es → RpT K H' Z' kvs es
  | [], _, h => by cases h; exact .nil
  | (c, d) :: es, _, h => by cases h with | cons h0 h1 h2 => exact .cons h0 (Rp.kp p d _ h1) (RpT.kp p es _ h2)
end
theorem Rp.mv {v : V} {d : PyData} (h : Rp K H Z v d) (p : Kp K H Z H' Z') : Rp K H' Z' v d := Rp.kp p d v h
theorem RpA.mv {vs : List V} {ds : List PyData} (h : RpA K H Z vs ds) (p : Kp K H Z H' Z') : RpA K H' Z' vs ds := RpA.kp p ds vs h
theorem RpA.len : ∀ {vs : List V} {ds : List PyData}, RpA K H Z vs ds → vs.length = ds.length
  | [], [], _ => rfl
  | _ :: vs, _ :: ds, h => by cases h with | cons _ h => simp [RpA.len h]
  | [], _ :: _, h => by cases h
  | _ :: _, [], h => by cases h
theorem RpA.get : ∀ {vs : List V} {ds : List PyData} {i : Nat} {d : PyData}, RpA K H Z vs ds → ds[i]? = some d → ∃ v, vs[i]? = some v ∧ Rp K H Z v d
  | [], [], i, d, _, e => by simp at e
  | v :: vs, c :: ds, 0, d, h, e => by
    cases h with
    | cons h1 h2 =>
      simp at e
      subst e
      exact ⟨v, rfl, h1⟩
  | v :: vs, c :: ds, i + 1, d, h, e => by
    cases h with
    | cons h1 h2 =>
      obtain ⟨u, hu, r⟩ := RpA.get (i := i) h2 (by simpa using e)
      exact ⟨u, by simpa using hu, r⟩
  | [], _ :: _, _, _, h, _ => by cases h
  | _ :: _, [], _, _, h, _ => by cases h
theorem RpA.app : ∀ {vs ws : List V} {ds es : List PyData}, RpA K H Z vs ds → RpA K H Z ws es → RpA K H Z (vs ++ ws) (ds ++ es)
  | [], _, [], _, _, h => h
  | _ :: _, _, _ :: _, _, .cons h1 h2, h => .cons h1 (RpA.app h2 h)
theorem RpA.drop : ∀ {vs : List V} {ds : List PyData} (n : Nat), RpA K H Z vs ds → RpA K H Z (vs.drop n) (ds.drop n)
  | _, _, 0, h => h
  | [], [], _ + 1, h => h
  | _ :: _, _ :: _, n + 1, .cons _ h => RpA.drop n h
theorem RpA.take : ∀ {vs : List V} {ds : List PyData} (n : Nat), RpA K H Z vs ds → RpA K H Z (vs.take n) (ds.take n)
  | _, _, 0, _ => .nil
  | [], [], _ + 1, _ => .nil
  | _ :: _, _ :: _, n + 1, .cons h1 h => .cons h1 (RpA.take n h)
theorem RpA.set {v : V} {d : PyData} (r : Rp K H Z v d) : ∀ {vs : List V} {ds : List PyData} (n : Nat), RpA K H Z vs ds → RpA K H Z (vs.set n v) (ds.set n d)
  | [], [], _, h => h
  | _ :: _, _ :: _, 0, .cons _ h => .cons r h
  | _ :: _, _ :: _, n + 1, .cons h1 h => .cons h1 (RpA.set r n h)
end
/-! ## the real heap reads as the data -/
section
variable {X : Cx} {pins : List (Addr × Obj)} {σ : L2.St} {H : Hp} {s : Shared} {Z : Addr → Prop}
/-- the dict of the modules stands in its place -/
def SysM (h : Heap) : Prop := ∃ (o : Obj) (es : Array DictEntry) (ep : Nat), h.get? sysModules = some o ∧ o.data = .dict es ep
/-- no list, no tuple stands there -/
theorem SysM.seq {h : Heap} {a : Addr} {o : Obj} {vs : Array Value} {n : Nat} (S : SysM h) (e : h.get? a = some o) (d : o.data = .seq vs n) : sysModules ≠ a := fun z => by
  obtain ⟨o', es, ep, e', d'⟩ := S
  rw [z, e] at e'
  cases e'
  rw [d] at d'
  cases d'
theorem SysM.up {h h' : Heap} (S : SysM h) (k : ∀ b o, h.get? b = some o → h'.get? b = some o) : SysM h' := by
  obtain ⟨o, es, ep, e, d⟩ := S
  exact ⟨o, es, ep, k _ _ e, d⟩
theorem off_cons {a : Addr} {as : List Addr} (h : sysModules ≠ a) (h' : sysModules ∉ as) : sysModules ∉ a :: as := fun z => by
  rcases List.mem_cons.mp z with z | z
  · exact h z
  · exact h' z
theorem off_app {as bs : List Addr} (h : sysModules ∉ as) (h' : sysModules ∉ bs) : sysModules ∉ as ++ bs := fun z => by
  rcases List.mem_append.mp z with z | z
  · exact h z
  · exact h' z
theorem off_nil : sysModules ∉ ([] : List Addr) := List.not_mem_nil
theorem keyD_rel {h : Heap} {d : PyData} {k : Key} {u : Value} (e : keyD d = some k) (r : RelV (kV k) u) : Reads h u d [] := by
  cases d with
  | int i => cases e; obtain ⟨t, rfl⟩ := r; exact .int i t
  | str x => cases e; obtain ⟨t, rfl⟩ := r; exact .str x t
  | _ => cases e
theorem keysD_reads {h : Heap} : ∀ {ds : List PyData} {ks : List Key} {us : List Value}, keysD ds = some ks → Vals (ks.map kV) us → ReadsAll h us ds []
  | [], ks, us, e, r => by
    cases e
    cases r
    exact .nil
  | d :: ds, ks, us, e, r => by
    unfold keysD at e
    split at e
    · rename_i k ks' e1 e2
      cases e
      cases r with
      | cons r1 r2 => exact .cons (as := []) (bs := []) (keyD_rel (h := h) e1 r1) (keysD_reads (h := h) e2 r2)
    · cases e
theorem tkD_reads (I : Inv X pins σ H s) {c : PyData} {k : List Key} {b : Addr} (e : tkD c = some k) (hb : H b = some (.tup (k.map kV))) : ∃ as, Reads s.heap (.ref b) c as ∧ (SysM s.heap → sysModules ∉ as) := by
  cases c with
  | tuple ds =>
    obtain ⟨its, rv, ⟨o, ho, hc, n, hd⟩, _⟩ := I.tuple (.inl (.inl hb))
    exact ⟨_, .tuple ho hc hd (keysD_reads (h := s.heap) (show keysD ds = some k from e) rv), fun _ => off_nil⟩
  | _ => cases e
theorem keyD_reads {h : Heap} {c : PyData} {k : Key} {u : Value} (e : keyD c = some k) (hk : keyIs k u = true) : Reads h u c [] := by
  cases c with
  | int i =>
    cases e
    rcases keyIs_shape hk with ⟨j, t, e1, rfl⟩ | ⟨x, t, e1, rfl⟩
    · cases e1; exact .int _ _
    · cases e1
  | str x =>
    cases e
    rcases keyIs_shape hk with ⟨j, t, e1, rfl⟩ | ⟨x, t, e1, rfl⟩
    · cases e1
    · cases e1; exact .str _ _
  | _ => cases e
mutual
/-- what is read lies beside the modules' dict -/
theorem Rp.readsM (I : Inv X pins σ H s) : ∀ (d : PyData) (v : V) (u : Value), Rp X.K H Z v d → RelV v u → ∃ as, Reads s.heap u d as ∧ (SysM s.heap → sysModules ∉ as)
  | .none, _, _, h, r => by cases h; cases r; exact ⟨_, .none, fun _ => off_nil⟩
  | .bool b, _, _, h, r => by cases h; cases r; exact ⟨_, .bool b, fun _ => off_nil⟩
  | .int i, _, _, h, r => by cases h; obtain ⟨t, rfl⟩ := r; exact ⟨_, .int i t, fun _ => off_nil⟩
  | .str x, _, _, h, r => by cases h; obtain ⟨t, rfl⟩ := r; exact ⟨_, .str x t, fun _ => off_nil⟩
  | .list ds, _, _, h, r => by
    cases h with
    | lst hs ha =>
      cases r
      obtain ⟨its, rv, ⟨o, n, ho, hc, _, hd⟩, _⟩ := I.list hs.sq
      obtain ⟨as, hr, g⟩ := RpA.readsM I ds _ its ha rv
      exact ⟨_, .list ho hc hd hr, fun S => off_cons (S.seq ho hd) (g S)⟩
  | .tuple ds, _, _, h, r => by
    cases h with
    | tup hs ha =>
      cases r
      obtain ⟨its, rv, ⟨o, ho, hc, n, hd⟩, _⟩ := I.tuple hs.sq
      obtain ⟨as, hr, g⟩ := RpA.readsM I ds _ its ha rv
      exact ⟨_, .tuple ho hc hd hr, g⟩
  | .dict es, _, _, h, r => by
    cases h with
    | dic h1 h3 =>
      cases r
      obtain ⟨_, _, hm, vs, kv, o, ents, ep, ho, hc, hd, _, he, _⟩ := (show ObjOk X.prog X.w H s.heap _ (.frz _ (.dK _)) from I.hok _ _ h1)
      obtain ⟨as, bs, r1, r2, g1, g2⟩ := RpK.readsM I es _ vs ents.toList h3 kv he
      exact ⟨_, .dict ho hc.1 hd r1 r2, fun S => off_app (off_cons (fun z => by subst z; cases hm) (g1 S)) (g2 S)⟩
    | dit h1 h3 =>
      cases r
      obtain ⟨_, _, hm, xs, kt, o, ents, ep, ho, hc, hd, he, _⟩ := (show ObjOk X.prog X.w H s.heap _ (.frz _ (.dT _)) from I.hok _ _ h1)
      obtain ⟨as, bs, r1, r2, g1, g2⟩ := RpT.readsM I es _ xs h3 kt
      rw [← he] at r1 r2
      exact ⟨_, .dict ho hc.1 hd r1 r2, fun S => off_app (off_cons (fun z => by subst z; cases hm) (g1 S)) (g2 S)⟩
theorem RpA.readsM (I : Inv X pins σ H s) : ∀ (ds : List PyData) (vs : List V) (us : List Value), RpA X.K H Z vs ds → Vals vs us → ∃ as, ReadsAll s.heap us ds as ∧ (SysM s.heap → sysModules ∉ as)
  | [], _, _, h, r => by cases h; cases r; exact ⟨_, .nil, fun _ => off_nil⟩
  | d :: ds, _, _, h, r => by
    cases h with
    | cons h1 h2 =>
      cases r with
      | cons r1 r2 =>
        obtain ⟨as, q1, g1⟩ := Rp.readsM I d _ _ h1 r1
        obtain ⟨bs, q2, g2⟩ := RpA.readsM I ds _ _ h2 r2
        exact ⟨_, .cons q1 q2, fun S => off_app (g1 S) (g2 S)⟩
theorem RpK.readsM (I : Inv X pins σ H s) : ∀ (es : List (PyData × PyData)) (kvs : List (Key × V)) (vs : List (Key × Value)) (ents : List DictEntry), RpK X.K H Z kvs es → KV kvs vs →
    Pairs (mixKind X.prog X.w) ents vs → ∃ as bs, ReadsAll s.heap (ents.map (·.key)) (es.map (·.1)) as ∧ ReadsAll s.heap (ents.map (·.val)) (es.map (·.2)) bs ∧ (SysM s.heap → sysModules ∉ as) ∧ (SysM s.heap → sysModules ∉ bs)
  | [], _, _, _, h, r, p => by cases h; cases r; cases p; exact ⟨_, _, .nil, .nil, fun _ => off_nil, fun _ => off_nil⟩
  | (c, d) :: es, _, _, _, h, r, p => by
    cases h with
    | cons h0 h1 h2 =>
      cases r with
      | cons r1 r2 =>
        cases p with
        | cons p1 p2 p3 =>
          obtain ⟨as, bs, q1, q2, g1, g2⟩ := RpK.readsM I es _ _ _ h2 r2 p3
          obtain ⟨cs, q3, g3⟩ := Rp.readsM I d _ _ h1 r1.2
          have q4 := keyD_reads (h := s.heap) (c := c) (h0.trans (congrArg some r1.1)) p1
          exact ⟨_, _, .cons q4 q1, by rw [List.map_cons, List.map_cons, p2]; exact .cons q3 q2, fun S => off_app off_nil (g1 S), fun S => off_app (g3 S) (g2 S)⟩
theorem RpT.readsM (I : Inv X pins σ H s) : ∀ (es : List (PyData × PyData)) (kvs : List (List Key × V)) (xs : List (List Key × Addr × Value)), RpT X.K H Z kvs es → KT H kvs xs →
    ∃ as bs, ReadsAll s.heap ((xs.map (entryOfKey (tupleKind (mixKind X.prog X.w)))).map (·.key)) (es.map (·.1)) as ∧ ReadsAll s.heap ((xs.map (entryOfKey (tupleKind (mixKind X.prog X.w)))).map (·.val)) (es.map (·.2)) bs ∧ (SysM s.heap → sysModules ∉ as) ∧ (SysM s.heap → sysModules ∉ bs)
  | [], _, _, h, r => by cases h; cases r; exact ⟨_, _, .nil, .nil, fun _ => off_nil, fun _ => off_nil⟩
  | (c, d) :: es, _, _, h, r => by
    cases h with
    | cons h0 h1 h2 =>
      cases r with
      | cons r1 r2 =>
        obtain ⟨as, bs, q1, q2, g1, g2⟩ := RpT.readsM I es _ _ h2 r2
        obtain ⟨cs, q3, g3⟩ := Rp.readsM I d _ _ h1 r1.2.2
        obtain ⟨ds, q4, g4⟩ := tkD_reads I h0 r1.2.1
        exact ⟨_, _, .cons q4 q1, .cons q3 q2, fun S => off_app (g4 S) (g1 S), fun S => off_app (g3 S) (g2 S)⟩
end
theorem Rp.reads (I : Inv X pins σ H s) (d : PyData) (v : V) (u : Value) (h : Rp X.K H Z v d) (r : RelV v u) : ∃ as, Reads s.heap u d as := let ⟨as, q, _⟩ := Rp.readsM I d v u h r; ⟨as, q⟩
theorem RpA.reads (I : Inv X pins σ H s) (ds : List PyData) (vs : List V) (us : List Value) (h : RpA X.K H Z vs ds) (r : Vals vs us) : ∃ as, ReadsAll s.heap us ds as := let ⟨as, q, _⟩ := RpA.readsM I ds vs us h r; ⟨as, q⟩
end
end
section
variable [Wtp]
/-! ## the store in the heap -/
structure Mp where
  ix : Nat → Addr
  F : Addr → Prop
/-- none of the store's objects, and none that is being made -/
def Off (m : Mp) (n : Nat) (a : Addr) : Prop := (∀ i, i < n → m.ix i ≠ a) ∧ ¬ m.F a
/-- an exception's own dict -/
def XdAt (K : Frg) (H : Hp) (m : Mp) (n : Nat) (dd : Addr) (es : List (Str × PyData)) : Prop := ∃ fs : List (Str × V), H dd = some (.xd fs) ∧ fs.map (·.1) = es.map (·.1) ∧ RpA K H (Off m n) (fs.map (·.2)) (es.map (·.2)) ∧ Off m n dd
def RW (K : Frg) (H : Hp) (m : Mp) (n : Nat) (v : V) : Wv → Prop
  | .d x => Rp K H (Off m n) v x
  | .r i => i < n ∧ v = .ref (m.ix i)
  | .x a _ d => v = .ref a ∧ ∀ p, d = some p → XdAt K H m n p.1 p.2
inductive RWs (K : Frg) (H : Hp) (m : Mp) (n : Nat) : List V → List Wv → Prop
  | nil : RWs K H m n [] []
  | cons {v : V} {vs : List V} {w : Wv} {ws : List Wv} : RW K H m n v w → RWs K H m n vs ws → RWs K H m n (v :: vs) (w :: ws)
/-- a pinned list -/
def FzL (K : Frg) (H : Hp) (Z : Addr → Prop) (a : Addr) (xs : List PyData) : Prop := ∃ o vs, H a = some (.frz o (.lst vs)) ∧ RpA K H Z vs xs
theorem FzL.mv {K : Frg} {H H' : Hp} {Z Z' : Addr → Prop} {a : Addr} {xs : List PyData} (h : FzL K H Z a xs) (p : Kp K H Z H' Z') : FzL K H' Z' a xs := let ⟨o, vs, h1, h2⟩ := h; ⟨o, vs, p.frz _ _ _ h1, h2.mv p⟩
theorem FzL.rp {K : Frg} {H : Hp} {Z : Addr → Prop} {a : Addr} {xs : List PyData} (h : FzL K H Z a xs) : Rp K H Z (.ref a) (.list xs) := let ⟨_, _, h1, h2⟩ := h; .lst (.inr (.inl ⟨_, h1⟩)) h2
def ObAt (K : Frg) (H : Hp) (m : Mp) (n : Nat) (a : Addr) : Ob → Prop
  | .lst xs => ∃ vs, H a = some (.lst vs) ∧ RpA K H (Off m n) vs xs
  | .dct kvs => ∃ ks, H a = some (.dK ks) ∧ RpK K H (Off m n) ks kvs
  | .dtt kvs => ∃ ks, H a = some (.dT ks) ∧ RpT K H (Off m n) ks kvs
  | .lkd kvs => Rp K H (Off m n) (.ref a) (.dict kvs)
  | .lkl xs => FzL K H (Off m n) a xs
/-- the tables of code objects that the law's own defs make lambdas with -/
class Tbl where
  T : List (Addr × Str)
structure Sim [Tbl] (K : Frg) (H : Hp) (m : Mp) (st : Sto) : Prop where
  ob : ∀ (i : Nat) o, st[i]? = some o → ObAt K H m st.length (m.ix i) o
  inj : ∀ i j, i < st.length → j < st.length → m.ix i = m.ix j → i = j
  ff : ∀ a, m.F a → Nn H a
  fi : ∀ i, i < st.length → ¬ m.F (m.ix i)
  tb : LamX.Tabs Tbl.T H
variable [Tbl]
structure Fol (m : Mp) (n : Nat) (H : Hp) (m' : Mp) (n' : Nat) (H' : Hp) : Prop where
  tup : ∀ a xs, H a = some (.tup xs) → H' a = some (.tup xs)
  frz : ∀ a o u, H a = some (.frz o u) → H' a = some (.frz o u)
  rest : ∀ a o, NT o → H a = some o → (∀ i, i < n → m.ix i ≠ a) → H' a = some o
  old : ∀ i, i < n → m'.ix i = m.ix i
  new : ∀ i, n ≤ i → i < n' → ¬ Nn H (m'.ix i)
  le : n ≤ n'
  dom : ∀ a, Nn H a → Nn H' a
  eF : ∀ a, Nn H a → (m'.F a ↔ m.F a)
structure EnvR (K : Frg) (H : Hp) (m : Mp) (n : Nat) (env : En) (σ : L2.St) : Prop where
  len : env.length = σ.length
  at' : ∀ (i : Nat) w, env[i]? = some (some w) → ∃ v, σ[i]? = some (some v) ∧ RW K H m n v w
section
variable {K : Frg} {H H' H'' : Hp} {m m' m'' : Mp} {n n' n'' : Nat}
theorem ObAt.there {a : Addr} {o : Ob} (h : ObAt K H m n a o) : Nn H a := by
  cases o with
  | lst xs => obtain ⟨vs, e, _⟩ := h; exact ⟨_, e, nt_lst⟩
  | dct kvs => obtain ⟨vs, e, _⟩ := h; exact ⟨_, e, nt_dK⟩
  | dtt kvs => obtain ⟨vs, e, _⟩ := h; exact ⟨_, e, nt_dT⟩
  | lkd kvs =>
    cases (show Rp K H (Off m n) (.ref a) (.dict kvs) from h) with
    | dic h1 _ => exact ⟨_, h1, fun _ z => nomatch z⟩
    | dit h1 _ => exact ⟨_, h1, fun _ z => nomatch z⟩
  | lkl xs => obtain ⟨o, vs, h1, _⟩ := h; exact ⟨_, h1, fun _ z => nomatch z⟩
theorem Sim.there {st : Sto} (S : Sim K H m st) {i : Nat} (hi : i < st.length) : Nn H (m.ix i) := (S.ob i st[i] (List.getElem?_eq_getElem hi)).there
theorem Sim.fresh {st : Sto} (S : Sim K H m st) {a : Addr} (h : H a = none) : Off m st.length a := ⟨fun i hi e => nn_no h (e ▸ S.there hi), fun z => nn_no h (S.ff a z)⟩
theorem Fol.refl : Fol m n H m n H := ⟨fun _ _ h => h, fun _ _ _ h => h, fun _ _ _ h _ => h, fun _ _ => rfl, fun i a b => absurd b (by omega), Nat.le_refl _, fun _ h => h, fun _ _ => Iff.rfl⟩
theorem Fol.off1 (f : Fol m n H m' n' H') {a : Addr} (z : ∀ i, i < n → m.ix i ≠ a) (h : Nn H a) : ∀ i, i < n' → m'.ix i ≠ a := fun i hi e => by
  by_cases q : i < n
  · exact z i q ((f.old i q).symm.trans e)
  · exact f.new i (by omega) hi (by rw [e]; exact h)
theorem Fol.off (f : Fol m n H m' n' H') {a : Addr} (z : Off m n a) (h : Nn H a) : Off m' n' a := ⟨f.off1 z.1 h, fun q => z.2 ((f.eF a h).mp q)⟩
theorem Fol.kp (f : Fol m n H m' n' H') : Kp K H (Off m n) H' (Off m' n') :=
  ⟨f.tup, f.frz, fun a o nt h z => ⟨f.rest a o nt.nt h z.1, f.off z ⟨o, h, nt.nt⟩⟩⟩
theorem Fol.trans (f : Fol m n H m' n' H') (g : Fol m' n' H' m'' n'' H'') : Fol m n H m'' n'' H'' where
  tup a xs h := g.tup a xs (f.tup a xs h)
  frz a o u h := g.frz a o u (f.frz a o u h)
  rest a o nt h z := g.rest a o nt (f.rest a o nt h z) (f.off1 z ⟨o, h, nt⟩)
  old i hi := (g.old i (Nat.lt_of_lt_of_le hi f.le)).trans (f.old i hi)
  new i h1 h2 := by
    by_cases q : i < n'
    · rw [g.old i q]; exact f.new i h1 q
    · exact fun z => g.new i (by omega) h2 (f.dom _ z)
  le := Nat.le_trans f.le g.le
  dom a h := g.dom a (f.dom a h)
  eF a h := (g.eF a (f.dom a h)).trans (f.eF a h)
theorem domOf (h : ∀ a o, H a = some o → H' a = some o) : ∀ a, Nn H a → Nn H' a := fun a ⟨o, e, nt⟩ => ⟨o, h _ _ e, nt⟩
theorem Fol.same (h : ∀ a o, H a = some o → H' a = some o) : Fol m n H m n H' :=
  ⟨fun _ _ q => h _ _ q, fun _ _ _ q => h _ _ q, fun _ _ _ q _ => h _ _ q, fun _ _ => rfl, fun i a b => absurd b (by omega), Nat.le_refl _, domOf h, fun _ _ => Iff.rfl⟩
theorem XdAt.mv {dd : Addr} {es : List (Str × PyData)} (h : XdAt K H m n dd es) (f : Fol m n H m' n' H') : XdAt K H' m' n' dd es := by
  obtain ⟨fs, h1, h2, h3, h4⟩ := h
  have nt : NT (.xd fs) := fun _ z => nomatch z
  exact ⟨fs, f.rest dd _ nt h1 h4.1, h2, h3.mv f.kp, f.off h4 ⟨_, h1, nt⟩⟩
theorem RW.mv {v : V} {w : Wv} (h : RW K H m n v w) (f : Fol m n H m' n' H') : RW K H' m' n' v w := by
  cases w with
  | d x => exact Rp.mv h f.kp
  | r i => exact ⟨Nat.lt_of_lt_of_le h.1 f.le, by rw [f.old i h.1]; exact h.2⟩
  | x a c d => exact ⟨h.1, fun p e => (h.2 p e).mv f⟩
theorem RWs.mv : ∀ {vs : List V} {ws : List Wv}, RWs K H m n vs ws → Fol m n H m' n' H' → RWs K H' m' n' vs ws
  | _, _, .nil, _ => .nil
  | _, _, .cons h1 h2, f => .cons (h1.mv f) (RWs.mv h2 f)
theorem RWs.len : ∀ {vs : List V} {ws : List Wv}, RWs K H m n vs ws → vs.length = ws.length
  | _, _, .nil => rfl
  | _, _, .cons _ h => by simp [RWs.len h]
theorem EnvR.mv {env : En} {σ : L2.St} (h : EnvR K H m n env σ) (f : Fol m n H m' n' H') : EnvR K H' m' n' env σ :=
  ⟨h.len, fun i w e => let ⟨v, h1, h2⟩ := h.at' i w e; ⟨v, h1, h2.mv f⟩⟩
theorem EnvR.set {env : En} {σ : L2.St} {v : V} {w : Wv} (h : EnvR K H m n env σ) (i : Nat) (r : RW K H m n v w) : EnvR K H m n (env.set i (some w)) (σ.set i (some v)) := by
  refine ⟨by simp [h.len], fun j u e => ?_⟩
  by_cases q : i = j
  · subst q
    by_cases l : i < env.length
    · rw [List.getElem?_set_self l] at e
      cases e
      exact ⟨v, List.getElem?_set_self (by rw [← h.len]; exact l), r⟩
    · rw [List.getElem?_eq_none (by simpa using l)] at e; cases e
  · rw [List.getElem?_set_ne q] at e
    obtain ⟨x, h1, h2⟩ := h.at' j u e
    exact ⟨x, by rw [List.getElem?_set_ne q]; exact h1, h2⟩
theorem ObAt.mv {a : Addr} {o : Ob} (h : ObAt K H m n a o) (f : Fol m n H m' n' H') (e : ∀ u, H a = some u → H' a = some u) : ObAt K H' m' n' a o := by
  cases o with
  | lst xs => obtain ⟨vs, h1, h2⟩ := h; exact ⟨vs, e _ h1, h2.mv f.kp⟩
  | dct kvs => obtain ⟨vs, h1, h2⟩ := h; exact ⟨vs, e _ h1, RpK.kp f.kp _ _ h2⟩
  | dtt kvs => obtain ⟨vs, h1, h2⟩ := h; exact ⟨vs, e _ h1, RpT.kp f.kp _ _ h2⟩
  | lkd es => exact Rp.mv h f.kp
  | lkl xs => exact FzL.mv h f.kp
/-- the store in a heap that has grown -/
theorem Sim.grow {st : Sto} (S : Sim K H m st) (h : ∀ a o, H a = some o → H' a = some o) : Sim K H' m st :=
  ⟨fun i o e => (S.ob i o e).mv (.same h) fun u => h _ u, S.inj, fun a z => (Fol.same (m := m) (n := 0) h).dom a (S.ff a z), S.fi, S.tb.ext h⟩
theorem grow_upd {p : Addr} {o : HO} (h : H p = none) : ∀ a u, H a = some u → upd H p o a = some u := fun a u e => by
  rw [upd_ne (ne_of_none e h)]; exact e
end
/-! ## an exception in the heap -/
structure ExR (K : Frg) (mg : Str → Option Value) (H : Hp) (m : Mp) (n : Nat) (e : Xc) (c : Value) (d : Option Addr) : Prop where
  cls : ∃ C, mg e.name = some (.ref C) ∧ c = .ref C
  fld : (e.fs = [] ∧ d = none) ∨ ∃ dd, d = some dd ∧ XdAt K H m n dd e.fs
/-! ## judgements -/
/-- what a value's end asks -/
def okE (X : Cx) (m : Mp) (n : Nat) (H : Hp) (Q : VK) : Wv → Sto → Prop := fun w st' => ∀ v H' m', Fol m n H m' st'.length H' → Sim X.K H' m' st' → RW X.K H' m' st'.length v w → Q v H'
def okX (X : Cx) (W : WX) (m : Mp) (n : Nat) (H : Hp) (σ : L2.St) : Xc → Sto → Prop := fun e st' => ∀ c d H' m', Fol m n H m' st'.length H' → Sim X.K H' m' st' → ExR X.K X.mg H' m' st'.length e c d → W c d σ H'
def tE (X : Cx) (W : WX) (c : En → Sto → Rs Wv) : TE := fun σ H Q => ∃ m env st, Sim X.K H m st ∧ EnvR X.K H m st.length env σ ∧ (c env st).post (okE X m st.length H Q) (okX X W m st.length H σ)
def tT (X : Cx) (W : WX) (c : En → Sto → Rs Bool) : TT := fun σ H Q => ∃ m env st, Sim X.K H m st ∧ EnvR X.K H m st.length env σ ∧ (c env st).post (fun b st' => ∀ H' m', Fol m st.length H m' st'.length H' → Sim X.K H' m' st' → Q b H') (okX X W m st.length H σ)
def tA (X : Cx) (W : WX) (c : En → Sto → Rs (List Wv)) : TA := fun σ H Q => ∃ m env st, Sim X.K H m st ∧ EnvR X.K H m st.length env σ ∧
  (c env st).post (fun ws st' => ∀ vs H' m', Fol m st.length H m' st'.length H' → Sim X.K H' m' st' → RWs X.K H' m' st'.length vs ws → Q vs H') (okX X W m st.length H σ)
structure DE (X : Cx) (e : Expr) (c : En → Sto → Rs Wv) : Prop where
  pe : ∀ W, Takes X W → PE X e (tE X W c)
structure DT (X : Cx) (e : Expr) (c : En → Sto → Rs Bool) : Prop where
  pt : ∀ W, Takes X W → PT X e (tT X W c)
structure DA (X : Cx) (es : List Expr) (c : En → Sto → Rs (List Wv)) : Prop where
  pa : ∀ W, Takes X W → PA X es (tA X W c)
/-- what a def's or a block's text stands in -/
structure Tb where
  N : List Str
  us : List Nat
  ls : List Nat
  ps : List Nat
  gs : List Str
  cs : List Str
  fn : Bool
  gd : Bool
  /-- the name of the lambdas that it makes -/
  lq : Option Str
/-- the module -/
structure Md where
  P : Program
  w : World
  K : Frg
  mg : Str → Option Value
  base : Heap
/-- the code object of a def that makes lambdas, and its table -/
structure LamC (mg : Str → Option Value) (base : Heap) (q : Str) (cd : Value) : Prop where
  at' : ∃ c P : Addr, cd = .ref c ∧ (P, q) ∈ Tbl.T ∧ (∀ p ∈ Tbl.T, p.1 = P → p.2 = q) ∧ LamX.TabB base mg c P
structure Cxt (M : Md) (X : Cx) (B : Tb) (k : Nat) : Prop where
  hP : X.prog = M.P
  hw : X.w = M.w
  hK : X.K = M.K
  mg : X.mg = M.mg
  hb : X.base = M.base
  hN : X.N = B.N
  nd : B.N.Nodup
  calm : X.calm = true
  kind : B.fn = true → X.env.scope.kind = .function
  room : Room k X.A
  gu : B.gd = true → X.A.guards = some []
  vis : ∀ i ∈ B.us, ∀ x, B.N[i]? = some x → Vis X.env.scope x
  loc : ∀ i ∈ B.ls, ∀ x, B.N[i]? = some x → Loc X.env.scope x ∧ (X.fn x = true ∨ X.env.scope.names.lookup x = some .local)
  pl : ∀ i ∈ B.ps, ∀ x, B.N[i]? = some x → X.env.scope.names.lookup x = some .local
  gl : ∀ (j : Nat) x, B.gs[j]? = some x → Gl X x
  cs : ∀ x ∈ B.cs, X.env.scope.names.lookup x = some .cell ∨ X.env.scope.names.lookup x = some .free
  po : B.fn = true → PassesOwn (model X.prog X.w) X.A X.env X.xe
  lam : ∀ q, B.lq = some q → X.env.qual ++ "<lambda>" = q ∧ LamC M.mg M.base q X.env.code
  fr : B.fn = true → X.stack = X.env :: X.outer ∧ X.env.frame = some X.env.locals
theorem Cxt.sm {M : Md} {X : Cx} {B : Tb} {k : Nat} (c : Cxt M X B k) (h : SysM M.base) : SysM X.base := by rw [c.hb]; exact h
theorem Cxt.roomH {M : Md} {X : Cx} {B : Tb} {k : Nat} (c : Cxt M X B k) : L2H.RoomH k X.A := L2H.roomH_of c.room
section
variable {M : Md} {X : Cx} {B : Tb} {k : Nat} {pins : List (Addr × Obj)} {σ : L2.St} {H : Hp} {s : Shared} {m : Mp} {env : En} {st : Sto} {W : WX}
/-- use a value's judgement -/
theorem DE.go {e : Expr} {c : En → Sto → Rs Wv} (h : DE X e c) (tk : Takes X W) (I : Inv X pins σ H s) (S : Sim X.K H m st) (R : EnvR X.K H m st.length env σ) {Q : Value → Shared → Prop}
    (hp : (c env st).post (fun w st' => ∀ v H' m' u s', Inv X pins σ H' s' → RelV v u → Fol m st.length H m' st'.length H' → Sim X.K H' m' st' → RW X.K H' m' st'.length v w → Q u s') (okX X W m st.length H σ)) :
    wpAny (model X.prog X.w) X.A (eval e X.env) Q X.xe s := by
  refine thn ((h.pe W tk).run pins s σ H (fun v H' => ∀ u s', Inv X pins σ H' s' → RelV v u → Q u s') I ⟨m, env, st, S, R, Rs.post_mono hp (fun w st' q v H' m' f S' r u s' I' rv => q v H' m' u s' I' rv f S' r) fun _ _ q => q⟩) fun u s' q => ?_
  obtain ⟨v, H', I', rv, q⟩ := q
  exact q u s' I' rv
theorem DT.go {e : Expr} {c : En → Sto → Rs Bool} (h : DT X e c) (tk : Takes X W) (I : Inv X pins σ H s) (S : Sim X.K H m st) (R : EnvR X.K H m st.length env σ) {Q : Bool → Shared → Prop}
    (hp : (c env st).post (fun b st' => ∀ H' m' s', Inv X pins σ H' s' → Fol m st.length H m' st'.length H' → Sim X.K H' m' st' → Q b s') (okX X W m st.length H σ)) :
    wpAny (model X.prog X.w) X.A (isTrue e X.env (eval e X.env)) Q X.xe s := by
  refine thn ((h.pt W tk).run pins s σ H (fun b H' => ∀ s', Inv X pins σ H' s' → Q b s') I ⟨m, env, st, S, R, Rs.post_mono hp (fun b st' q H' m' f S' s' I' => q H' m' s' I' f S') fun _ _ q => q⟩) fun b s' q => ?_
  obtain ⟨H', I', q⟩ := q
  exact q s' I'
theorem DA.go {es : List Expr} {c : En → Sto → Rs (List Wv)} (h : DA X es c) (tk : Takes X W) (I : Inv X pins σ H s) (S : Sim X.K H m st) (R : EnvR X.K H m st.length env σ) {Q : List Value → Shared → Prop} (pos : Pos)
    (hp : (c env st).post (fun ws st' => ∀ vs H' m' us s', Inv X pins σ H' s' → Vals vs us → Fol m st.length H m' st'.length H' → Sim X.K H' m' st' → RWs X.K H' m' st'.length vs ws → Q us s') (okX X W m st.length H σ)) :
    wpAny (model X.prog X.w) X.A (spliced (backTo pos (starEach es X.env))) Q X.xe s := by
  refine thn ((h.pa W tk).run pos pins s σ H (fun vs H' => ∀ us s', Inv X pins σ H' s' → Vals vs us → Q us s') I ⟨m, env, st, S, R, Rs.post_mono hp (fun w st' q vs H' m' f S' r us s' I' rv => q vs H' m' us s' I' rv f S' r) fun _ _ q => q⟩) fun u s' q => ?_
  obtain ⟨v, H', I', rv, q⟩ := q
  exact q u s' I' rv
/-- state a value's judgement -/
theorem DE.mk' {e : Expr} {c : En → Sto → Rs Wv} (h : ∀ (W : WX) (pins : List (Addr × Obj)) (σ : L2.St) (H : Hp) (s : Shared) (m : Mp) (env : En) (st : Sto) (Q : Value → Shared → Prop), Takes X W → Inv X pins σ H s → Sim X.K H m st → EnvR X.K H m st.length env σ →
    (c env st).post (fun w st' => ∀ v H' m' u s', Inv X pins σ H' s' → RelV v u → Fol m st.length H m' st'.length H' → Sim X.K H' m' st' → RW X.K H' m' st'.length v w → Q u s') (okX X W m st.length H σ) →
    wpAny (model X.prog X.w) X.A (eval e X.env) Q X.xe s) : DE X e c := by
  refine ⟨fun W tk => ⟨fun pins s σ H Q I ⟨m, env, st, S, R, hp⟩ => h W pins σ H s m env st _ tk I S R (Rs.post_mono hp (fun w st' q v H' m' u s' I' rv f S' r => ?_) fun _ _ q => q)⟩⟩
  exact ⟨v, H', I', rv, q v H' m' f S' r⟩
theorem DT.mk' {e : Expr} {c : En → Sto → Rs Bool} (h : ∀ (W : WX) (pins : List (Addr × Obj)) (σ : L2.St) (H : Hp) (s : Shared) (m : Mp) (env : En) (st : Sto) (Q : Bool → Shared → Prop), Takes X W → Inv X pins σ H s → Sim X.K H m st → EnvR X.K H m st.length env σ →
    (c env st).post (fun b st' => ∀ H' m' s', Inv X pins σ H' s' → Fol m st.length H m' st'.length H' → Sim X.K H' m' st' → Q b s') (okX X W m st.length H σ) →
    wpAny (model X.prog X.w) X.A (isTrue e X.env (eval e X.env)) Q X.xe s) : DT X e c := by
  refine ⟨fun W tk => ⟨fun pins s σ H Q I ⟨m, env, st, S, R, hp⟩ => h W pins σ H s m env st _ tk I S R (Rs.post_mono hp (fun b st' q H' m' s' I' f S' => ?_) fun _ _ q => q)⟩⟩
  exact ⟨H', I', q H' m' f S'⟩
theorem DA.mk' {es : List Expr} {c : En → Sto → Rs (List Wv)} (h : ∀ (W : WX) (pins : List (Addr × Obj)) (σ : L2.St) (H : Hp) (s : Shared) (m : Mp) (env : En) (st : Sto) (Q : List Value → Shared → Prop) (pos : Pos), Takes X W → Inv X pins σ H s → Sim X.K H m st → EnvR X.K H m st.length env σ →
    (c env st).post (fun ws st' => ∀ vs H' m' us s', Inv X pins σ H' s' → Vals vs us → Fol m st.length H m' st'.length H' → Sim X.K H' m' st' → RWs X.K H' m' st'.length vs ws → Q us s') (okX X W m st.length H σ) →
    wpAny (model X.prog X.w) X.A (spliced (backTo pos (starEach es X.env))) Q X.xe s) : DA X es c := by
  refine ⟨fun W tk => ⟨fun pos pins s σ H Q I ⟨m, env, st, S, R, hp⟩ => h W pins σ H s m env st _ pos tk I S R (Rs.post_mono hp (fun w st' q v H' m' u s' I' rv f S' r => ?_) fun _ _ q => q)⟩⟩
  exact ⟨v, H', I', rv, q v H' m' f S' r⟩
/-- what follows a first part asks of the rest -/
theorem okX.tr {m1 : Mp} {n n1 : Nat} {H1 : Hp} {e : Xc} {st' : Sto} (f : Fol m n H m1 n1 H1) (h : okX X W m n H σ e st') : okX X W m1 n1 H1 σ e st' := fun c d H' m' f' S' r => h c d H' m' (f.trans f') S' r
/-! ### names, constants -/
def eVar (i : Nat) : En → Sto → Rs Wv := fun env st => match env[i]? with
  | some (some w) => .ok w st
  | _ => .no
theorem de_var (c : Cxt M X B k) (i : Nat) {x : Str} {pos : Pos} (h : B.N[i]? = some x) (hu : i ∈ B.us) (hd : (x == ("__debug__" : Str)) = false := by decide) (hc : (x == ("__classdict__" : Str)) = false := by decide) : DE X (.Name x pos) (eVar i) := by
  refine ⟨fun W tk => ⟨fun pins s σ H Q I ⟨m, env, st, S, R, hp⟩ => (pe_var (i := i) (by rw [c.hN]; exact h) (c.vis i hu x h) hd hc).run pins s σ H Q I ?_⟩⟩
  unfold eVar at hp
  split at hp
  · rename_i w e
    obtain ⟨v, hv, r⟩ := R.at' i w e
    exact ⟨v, hv, hp v H m .refl S r⟩
  · exact hp.elim
def eK (x : PyData) : En → Sto → Rs Wv := fun _ st => .ok (.d x) st
theorem de_pure {e : Expr} {v : V} {x : PyData} (h : PE X e (tC v)) (r : ∀ K H Z, Rp K H Z v x) : DE X e (eK x) :=
  ⟨fun W tk => ⟨fun pins s σ H Q I ⟨m, env, st, S, R, hp⟩ => h.run pins s σ H Q I (hp v H m .refl S (r _ _ _))⟩⟩
theorem de_int {i : Int} {j : Nat} {pos : Pos} : DE X (.Constant (.int i) j pos) (eK (.int i)) := de_pure pe_int fun _ _ _ => .int i
theorem de_bl {b : Bool} {j : Nat} {pos : Pos} : DE X (.Constant (.bool b) j pos) (eK (.bool b)) := de_pure pe_bl fun _ _ _ => .bl b
theorem de_non {j : Nat} {pos : Pos} : DE X (.Constant .none j pos) (eK .none) := de_pure pe_non fun _ _ _ => .non
theorem de_str {x : Str} {j : Nat} {pos : Pos} : DE X (.Constant (.str x) j pos) (eK (.str x)) := de_pure pe_str fun _ _ _ => .str x
/-- a constant of the module -/
theorem de_glob {x : Str} {pos : Pos} {v : V} {u : Value} {y : PyData} (c : Cxt M X B k) (j : Nat) (h : B.gs[j]? = some x) (hm : M.mg x = some u) (r : RelV v u) (ry : ∀ H Z, Rp M.K H Z v y) (hd : (x == ("__debug__" : Str)) = false := by decide) : DE X (.Name x pos) (eK y) :=
  ⟨fun W tk => ⟨fun pins s σ H Q I ⟨m, env, st, S, R, hp⟩ => (pe_glob (c.gl j x h) (by rw [c.mg]; exact hm) r hd).run pins s σ H Q I (hp v H m .refl S (by rw [c.hK]; exact ry _ _))⟩⟩
end
end
section
variable [Wtp] [Tbl]
/-! ## data at the top: a list of the store too -/
/-- a dict that is read -/
def DkT (K : Frg) (H : Hp) (Z : Addr → Prop) (a : Addr) (es : List (PyData × PyData)) : Prop := (∃ ks, Rd H a (.dK ks) ∧ RpK K H Z ks es) ∨ ∃ ks, Rd H a (.dT ks) ∧ RpT K H Z ks es
def RT (K : Frg) (H : Hp) (Z : Addr → Prop) (v : V) (d : PyData) : Prop :=
  Rp K H Z v d ∨ (∃ a vs ds, v = .ref a ∧ d = .list ds ∧ H a = some (.lst vs) ∧ RpA K H Z vs ds) ∨ ∃ a, ∃ (_ : Unit), ∃ es, v = .ref a ∧ d = .dict es ∧ DkT K H Z a es
inductive RTs (K : Frg) (H : Hp) (Z : Addr → Prop) : List V → List PyData → Prop
  | nil : RTs K H Z [] []
  | cons {v : V} {vs : List V} {d : PyData} {ds : List PyData} : RT K H Z v d → RTs K H Z vs ds → RTs K H Z (v :: vs) (d :: ds)
section
variable {K : Frg} {H : Hp} {Z : Addr → Prop} {m : Mp} {st : Sto} {v : V}
theorem look_rt {w : Wv} {d : PyData} (S : Sim K H m st) (r : RW K H m st.length v w) (e : look st w = some d) : RT K H (Off m st.length) v d := by
  cases w with
  | d x =>
    cases e
    exact .inl r
  | r i =>
    obtain ⟨hi, rfl⟩ := r
    simp only [look] at e
    cases q : st[i]? with
    | none => rw [q] at e; cases e
    | some o =>
      rw [q] at e
      have h := S.ob i o q
      cases o with
      | lst xs =>
        cases e
        obtain ⟨vs, h1, h2⟩ := h
        exact .inr (.inl ⟨_, vs, xs, rfl, rfl, h1, h2⟩)
      | dct kvs =>
        cases e
        obtain ⟨vs, h1, h2⟩ := h
        exact .inr (.inr ⟨_, (), kvs, rfl, rfl, .inl ⟨vs, .inl h1, h2⟩⟩)
      | dtt kvs =>
        cases e
        obtain ⟨vs, h1, h2⟩ := h
        exact .inr (.inr ⟨_, (), kvs, rfl, rfl, .inr ⟨vs, .inl h1, h2⟩⟩)
      | lkd kvs =>
        cases e
        exact .inl h
      | lkl xs =>
        cases e
        exact .inl (FzL.rp h)
  | x a c d => cases e
theorem RT.non (h : RT K H Z v .none) : v = .non := by
  rcases h with h | ⟨_, _, _, _, e, _⟩ | ⟨_, _, _, _, e, _⟩
  · cases h; rfl
  · cases e
  · cases e
theorem RT.int {i : Int} (h : RT K H Z v (.int i)) : v = .int i := by
  rcases h with h | ⟨_, _, _, _, e, _⟩ | ⟨_, _, _, _, e, _⟩
  · cases h; rfl
  · cases e
  · cases e
theorem RT.bl {b : Bool} (h : RT K H Z v (.bool b)) : v = .bl b := by
  rcases h with h | ⟨_, _, _, _, e, _⟩ | ⟨_, _, _, _, e, _⟩
  · cases h; rfl
  · cases e
  · cases e
theorem RT.str {x : Str} (h : RT K H Z v (.str x)) : v = .str x := by
  rcases h with h | ⟨_, _, _, _, e, _⟩ | ⟨_, _, _, _, e, _⟩
  · cases h; rfl
  · cases e
  · cases e
theorem RT.tupT {ds : List PyData} (h : RT K H Z v (.tuple ds)) : ∃ a vs, v = .ref a ∧ TpAt K H a vs ds ∧ RpA K H Z vs ds := by
  rcases h with h | ⟨_, _, _, _, e, _⟩ | ⟨_, _, _, _, e, _⟩
  · cases h with | tup h1 h2 => exact ⟨_, _, rfl, h1, h2⟩
  · cases e
  · cases e
theorem RT.tup {ds : List PyData} (h : RT K H Z v (.tuple ds)) : ∃ a vs, v = .ref a ∧ SqT K H a vs ∧ RpA K H Z vs ds := by
  rcases h with h | ⟨_, _, _, _, e, _⟩ | ⟨_, _, _, _, e, _⟩
  · cases h with | tup h1 h2 => exact ⟨_, _, rfl, h1.sq, h2⟩
  · cases e
  · cases e
theorem RT.lst {ds : List PyData} (h : RT K H Z v (.list ds)) : ∃ a vs, v = .ref a ∧ LsX K H a vs ∧ RpA K H Z vs ds := by
  rcases h with h | ⟨a, vs, xs, rfl, e, h1, h2⟩ | ⟨_, _, _, _, e, _⟩
  · cases h with | lst h1 h2 => exact ⟨_, _, rfl, h1.x, h2⟩
  · cases e; exact ⟨a, vs, rfl, .inl ⟨h1, trivial⟩, h2⟩
  · cases e
theorem RT.dic {es : List (PyData × PyData)} (h : RT K H Z v (.dict es)) : ∃ a, v = .ref a ∧ DkT K H Z a es := by
  rcases h with h | ⟨_, _, _, _, e, _⟩ | ⟨a, ks, xs, rfl, e, h1⟩
  · cases h with
    | dic h1 h2 => exact ⟨_, rfl, .inl ⟨_, .inr ⟨_, h1⟩, h2⟩⟩
    | dit h1 h2 => exact ⟨_, rfl, .inr ⟨_, .inr ⟨_, h1⟩, h2⟩⟩
  · cases e
  · cases e; exact ⟨a, rfl, h1⟩
end
section
variable {X : Cx} {pins : List (Addr × Obj)} {σ : L2.St} {H : Hp} {s : Shared} {Z : Addr → Prop}
theorem Inv.rtM (I : Inv X pins σ H s) {v : V} {u : Value} {d : PyData} (h : RT X.K H Z v d) (r : RelV v u) : ∃ as, Reads s.heap u d as ∧ (SysM s.heap → sysModules ∉ as) := by
  rcases h with h | ⟨a, vs, ds, rfl, rfl, h1, h2⟩ | ⟨a, ks, es, rfl, rfl, h1⟩
  · exact Rp.readsM I d v u h r
  · cases r
    obtain ⟨its, rv, ⟨o, n, ho, hc, _, hd⟩, _⟩ := I.list (.inl (.inl h1))
    obtain ⟨as, hr, g⟩ := RpA.readsM I ds _ its h2 rv
    exact ⟨_, .list ho hc hd hr, fun S => off_cons (S.seq ho hd) (g S)⟩
  · cases r
    rcases h1 with ⟨ks, h1, h2⟩ | ⟨ks, h1, h2⟩
    · obtain ⟨_, hm, vs, kv, o, ents, ep, ho, hc, hd, _, he, _⟩ := (show ObjOk X.prog X.w H s.heap _ (.dK _) from h1.ok I.hok)
      obtain ⟨as, bs, r1, r2, g1, g2⟩ := RpK.readsM I es _ vs ents.toList h2 kv he
      exact ⟨_, .dict ho hc.1 hd r1 r2, fun S => off_app (off_cons (fun z => by subst z; cases hm) (g1 S)) (g2 S)⟩
    · obtain ⟨_, hm, xs, kt, o, ents, ep, ho, hc, hd, he, _⟩ := (show ObjOk X.prog X.w H s.heap _ (.dT _) from h1.ok I.hok)
      obtain ⟨as, bs, r1, r2, g1, g2⟩ := RpT.readsM I es _ xs h2 kt
      rw [← he] at r1 r2
      exact ⟨_, .dict ho hc.1 hd r1 r2, fun S => off_app (off_cons (fun z => by subst z; cases hm) (g1 S)) (g2 S)⟩
theorem Inv.rt (I : Inv X pins σ H s) {v : V} {u : Value} {d : PyData} (h : RT X.K H Z v d) (r : RelV v u) : ∃ as, Reads s.heap u d as := let ⟨as, q, _⟩ := Inv.rtM I h r; ⟨as, q⟩
end
/-! ## operations on data -/
/-- what an operation's rule tells: its end, for whoever goes on -/
def rOut (K : Frg) (H : Hp) (Z : Addr → Prop) (r : PyData) (Q : VK) : Prop := ∀ z H', (∀ a o, H a = some o → H' a = some o) → Rp K H' Z z r → Q z H'
def rD (K : Frg) (f : PyData → PyData → Option PyData) : R2 := fun x y H Q => ∃ Z d e r, (∀ a, H a = none → Z a) ∧ RT K H Z x d ∧ RT K H Z y e ∧ f d e = some r ∧ rOut K H Z r Q
def rN (K : Frg) (f : List PyData → Option PyData) : List V → Hp → VK → Prop := fun vs H Q => ∃ Z ds r, (∀ a, H a = none → Z a) ∧ RTs K H Z vs ds ∧ f ds = some r ∧ rOut K H Z r Q
def rU1 (K : Frg) (f : PyData → Option PyData) : V → Hp → VK → Prop := fun x H Q => ∃ Z d r, (∀ a, H a = none → Z a) ∧ RT K H Z x d ∧ f d = some r ∧ rOut K H Z r Q
/-- the truth of data -/
def truD : PyData → Bool
  | .none => false
  | .bool b => b
  | .int i => i != 0
  | .str x => x.length != 0
  | .list xs => !xs.isEmpty
  | .tuple xs => !xs.isEmpty
  | .dict es => !es.isEmpty
def strOk : PyData → Bool
  | .str x => decide (x.length ≤ 1000000)
  | .dict _ => false
  | _ => true
theorem line_lim : 1000000 ≤ sizeLine := by rw [sizeLine_eq]; decide
def ret1 (r : Option PyData) (st : Sto) : Rs Wv := match r with
  | some x => .ok (.d x) st
  | none => .no
@[simp] theorem ret1_some (x : PyData) (st : Sto) : ret1 (some x) st = .ok (.d x) st := rfl
@[simp] theorem ret1_none (st : Sto) : ret1 none st = .no := rfl
def look1 (w : Wv) (st : Sto) (f : PyData → Rs Wv) : Rs Wv := match look st w with
  | some d => f d
  | none => .no
@[simp] theorem look1_d (x : PyData) (st : Sto) (f : PyData → Rs Wv) : look1 (.d x) st f = f x := rfl
def looks : List Wv → Sto → Option (List PyData)
  | [], _ => some []
  | w :: ws, st => match look st w, looks ws st with
    | some d, some ds => some (d :: ds)
    | _, _ => none
@[simp] theorem looks_nil (st : Sto) : looks [] st = some [] := rfl
@[simp] theorem looks_d (x : PyData) (ws : List Wv) (st : Sto) : looks (.d x :: ws) st = (looks ws st).map (x :: ·) := by
  simp only [looks, look_d]
  cases looks ws st <;> rfl
def eOp2 (f : PyData → PyData → Option PyData) (ca cb : En → Sto → Rs Wv) : En → Sto → Rs Wv := fun env st =>
  (ca env st).bind fun a st1 => (cb env st1).bind fun b st2 => look1 a st2 fun d => look1 b st2 fun e => ret1 (f d e) st2
def eOp1 (f : PyData → Option PyData) (ca : En → Sto → Rs Wv) : En → Sto → Rs Wv := fun env st => (ca env st).bind fun a st1 => look1 a st1 fun d => ret1 (f d) st1
def aNil : En → Sto → Rs (List Wv) := fun _ st => .ok [] st
def aCons (ca : En → Sto → Rs Wv) (cs : En → Sto → Rs (List Wv)) : En → Sto → Rs (List Wv) := fun env st => (ca env st).bind fun a st1 => (cs env st1).bind fun r st2 => .ok (a :: r) st2
def eOpN (f : List PyData → Option PyData) (cs : En → Sto → Rs (List Wv)) : En → Sto → Rs Wv := fun env st =>
  (cs env st).bind fun ws st1 => match looks ws st1 with
    | some ds => ret1 (f ds) st1
    | none => .no
/-- the truth of a value -/
def tru (w : Wv) (st : Sto) : Rs Bool := match look st w with
  | some d => if strOk d then .ok (truD d) st else .no
  | none => .no
@[simp] theorem tru_bool (b : Bool) (st : Sto) : tru (.d (.bool b)) st = .ok b st := rfl
def tTru (c : En → Sto → Rs Wv) : En → Sto → Rs Bool := fun env st => (c env st).bind tru
def tAnd2 (a b : En → Sto → Rs Bool) : En → Sto → Rs Bool := fun env st => (a env st).bind fun x st1 => if x then b env st1 else .ok false st1
def tOr2 (a b : En → Sto → Rs Bool) : En → Sto → Rs Bool := fun env st => (a env st).bind fun x st1 => if x then .ok true st1 else b env st1
def tNot1 (a : En → Sto → Rs Bool) : En → Sto → Rs Bool := fun env st => (a env st).bind fun x st1 => .ok (!x) st1
def eAnd2 (a b : En → Sto → Rs Wv) : En → Sto → Rs Wv := fun env st => (a env st).bind fun w st1 => (tru w st1).bind fun x st2 => if x then b env st2 else .ok w st2
def eOr2 (a b : En → Sto → Rs Wv) : En → Sto → Rs Wv := fun env st => (a env st).bind fun w st1 => (tru w st1).bind fun x st2 => if x then .ok w st2 else b env st2
def eNot1 (a : En → Sto → Rs Wv) : En → Sto → Rs Wv := fun env st => (a env st).bind fun w st1 => (tru w st1).bind fun x st2 => .ok (.d (.bool (!x))) st2
def eIf (t : En → Sto → Rs Bool) (a b : En → Sto → Rs Wv) : En → Sto → Rs Wv := fun env st => (t env st).bind fun x st1 => if x then a env st1 else b env st1
/-- a op b op' c -/
def eChain (f g : PyData → PyData → Option PyData) (ca cb cc : En → Sto → Rs Wv) : En → Sto → Rs Wv := fun env st =>
  (ca env st).bind fun a st1 => (cb env st1).bind fun b st2 => look1 a st2 fun d => look1 b st2 fun e => match f d e with
    | some (.bool true) => (cc env st2).bind fun c st3 => look1 b st3 fun e' => look1 c st3 fun y => ret1 (g e' y) st3
    | some (.bool false) => .ok (.d (.bool false)) st2
    | _ => .no
def allD : List Wv → Option (List PyData)
  | [] => some []
  | .d x :: ws => (allD ws).map (x :: ·)
  | .r _ :: _ => none
  | .x _ _ _ :: _ => none
@[simp] theorem allD_nil : allD [] = some [] := rfl
@[simp] theorem allD_cons (x : PyData) (ws : List Wv) : allD (.d x :: ws) = (allD ws).map (x :: ·) := rfl
def eTup (cs : En → Sto → Rs (List Wv)) : En → Sto → Rs Wv := fun env st => (cs env st).bind fun ws st1 => match allD ws with
  | some ds => if ds.length ≤ 1000000 then .ok (.d (.tuple ds)) st1 else .no
  | none => .no
def eLst (cs : En → Sto → Rs (List Wv)) : En → Sto → Rs Wv := fun env st => (cs env st).bind fun ws st1 => match allD ws with
  | some ds => if ds.length ≤ 1000000 then .ok (.d (.list ds)) st1 else .no
  | none => .no
/-- a new list of the store -/
def eNewL (cs : En → Sto → Rs (List Wv)) : En → Sto → Rs Wv := fun env st => (cs env st).bind fun ws st1 => match allD ws with
  | some ds => if ds.length ≤ 1000000 then .ok (.r st1.length) (st1 ++ [.lst ds]) else .no
  | none => .no
def eNewD : En → Sto → Rs Wv := fun _ st => .ok (.r st.length) (st ++ [.dct []])
/-- a new dict whose keys will be tuples -/
def eNewT : En → Sto → Rs Wv := fun _ st => .ok (.r st.length) (st ++ [.dtt []])
def eDic0 : En → Sto → Rs Wv := eK (.dict [])
section
variable {M : Md} {X : Cx} {B : Tb} {k : Nat} {pins : List (Addr × Obj)} {σ : L2.St} {H : Hp} {s : Shared} {m : Mp} {env : En} {st : Sto} {W : WX}
  {a b : Expr} {ca cb cc : En → Sto → Rs Wv} {pos : Pos}
theorem PE.imp {e : Expr} {t t' : TE} (h : PE X e t) (q : ∀ σ H Q, t' σ H Q → t σ H Q) : PE X e t' := ⟨fun pins s σ H Q I x => h.run pins s σ H Q I (q σ H Q x)⟩
theorem PT.imp {e : Expr} {t t' : TT} (h : PT X e t) (q : ∀ σ H Q, t' σ H Q → t σ H Q) : PT X e t' := ⟨fun pins s σ H Q I x => h.run pins s σ H Q I (q σ H Q x)⟩
theorem PW.imp {e : Expr} {t t' : TT} (h : PW X e t) (q : ∀ σ H Q, t' σ H Q → t σ H Q) : PW X e t' := ⟨fun wh pins s σ H Q I x => h.run wh pins s σ H Q I (q σ H Q x)⟩
theorem PA.imp {e : List Expr} {t t' : TA} (h : PA X e t) (q : ∀ σ H Q, t' σ H Q → t σ H Q) : PA X e t' := ⟨fun pos pins s σ H Q I x => h.run pos pins s σ H Q I (q σ H Q x)⟩
theorem look1_post {w : Wv} {f : PyData → Rs Wv} {Q : Wv → Sto → Prop} {R : Xc → Sto → Prop} (h : (look1 w st f).post Q R) : ∃ d, look st w = some d ∧ (f d).post Q R := by
  unfold look1 at h
  split at h
  · exact ⟨_, by assumption, h⟩
  · exact h.elim
theorem ret1_post {r : Option PyData} {Q : Wv → Sto → Prop} {R : Xc → Sto → Prop} (h : (ret1 r st).post Q R) : ∃ d, r = some d ∧ Q (.d d) st := by
  unfold ret1 at h
  split at h
  · exact ⟨_, rfl, h⟩
  · exact h.elim
/-- an operation's end goes on -/
theorem okE.out {m1 : Mp} {H1 : Hp} {st1 : Sto} {n : Nat} {r : PyData} {Q : VK} (f : Fol m n H m1 st1.length H1) (S : Sim X.K H1 m1 st1) (q : okE X m n H Q (.d r) st1) : rOut X.K H1 (Off m1 st1.length) r Q := fun z H' g h =>
  q z H' m1 (f.trans (.same g)) (S.grow g) h
/-- two parts, then what is asked of both -/
theorem te_two (f : PyData → PyData → Option PyData) {Q : VK} (h : tE X W (eOp2 f ca cb) σ H Q) : tOp (rD X.K f) (tE X W ca) (tE X W cb) σ H Q := by
  obtain ⟨m, env, st, S, R, hp⟩ := h
  unfold eOp2 at hp
  rw [Rs.post_bind] at hp
  refine ⟨m, env, st, S, R, Rs.post_mono hp (fun w st1 q v H1 m1 f1 S1 r1 => ?_) fun _ _ q => q⟩
  rw [Rs.post_bind] at q
  refine ⟨m1, env, st1, S1, R.mv f1, Rs.post_mono q (fun w2 st2 q v2 H2 m2 f2 S2 r2 => ?_) fun _ _ q => okX.tr f1 q⟩
  obtain ⟨d, e1, q⟩ := look1_post q
  obtain ⟨e, e2, q⟩ := look1_post q
  obtain ⟨r, e3, q⟩ := ret1_post q
  exact ⟨_, d, e, r, fun a => S2.fresh, look_rt S2 (r1.mv f2) e1, look_rt S2 r2 e2, e3, okE.out (f1.trans f2) S2 q⟩
theorem te_one (f : PyData → Option PyData) {Q : VK} (h : tE X W (eOp1 f ca) σ H Q) : tUn (rU1 X.K f) (tE X W ca) σ H Q := by
  obtain ⟨m, env, st, S, R, hp⟩ := h
  unfold eOp1 at hp
  rw [Rs.post_bind] at hp
  refine ⟨m, env, st, S, R, Rs.post_mono hp (fun w st1 q v H1 m1 f1 S1 r1 => ?_) fun _ _ q => q⟩
  obtain ⟨d, e1, q⟩ := look1_post q
  obtain ⟨r, e3, q⟩ := ret1_post q
  exact ⟨_, d, r, fun a => S1.fresh, look_rt S1 r1 e1, e3, okE.out f1 S1 q⟩
theorem looks_rt {vs : List V} {ws : List Wv} {ds : List PyData} (S : Sim X.K H m st) (r : RWs X.K H m st.length vs ws) (e : looks ws st = some ds) : RTs X.K H (Off m st.length) vs ds := by
  induction r generalizing ds with
  | nil => cases e; exact .nil
  | cons r1 r2 ih =>
    unfold looks at e
    split at e
    · cases e
      exact .cons (look_rt S r1 (by assumption)) (ih (by assumption))
    · cases e
theorem te_all (f : List PyData → Option PyData) {cs : En → Sto → Rs (List Wv)} {Q : VK} (h : tE X W (eOpN f cs) σ H Q) : tCB (rN X.K f) (tA X W cs) σ H Q := by
  obtain ⟨m, env, st, S, R, hp⟩ := h
  unfold eOpN at hp
  rw [Rs.post_bind] at hp
  refine ⟨m, env, st, S, R, Rs.post_mono hp (fun ws st1 q vs H1 m1 f1 S1 r1 => ?_) fun _ _ q => q⟩
  split at q
  · obtain ⟨r, e3, q⟩ := ret1_post q
    exact ⟨_, _, r, fun a => S1.fresh, looks_rt S1 r1 (by assumption), e3, okE.out f1 S1 q⟩
  · exact q.elim
/-! ### argument lists, operators -/
theorem da_nil : DA X [] aNil := ⟨fun W tk => ⟨fun pos pins s σ H Q I ⟨m, env, st, S, R, hp⟩ => pa_nil.run pos pins s σ H Q I (hp [] H m .refl S .nil)⟩⟩
theorem da_cons {e : Expr} {es : List Expr} {cs : En → Sto → Rs (List Wv)} (ha : DE X e ca) (hr : DA X es cs) (hs : starEach (e :: es) X.env = (false, eval e X.env) :: starEach es X.env := by rfl) : DA X (e :: es) (aCons ca cs) := by
  refine ⟨fun W tk => PA.imp (pa_cons (ha.pe W tk) (hr.pa W tk) hs) fun σ H Q ⟨m, env, st, S, R, hp⟩ => ?_⟩
  unfold aCons at hp
  rw [Rs.post_bind] at hp
  refine ⟨m, env, st, S, R, Rs.post_mono hp (fun w st1 q v H1 m1 f1 S1 r1 => ?_) fun _ _ q => q⟩
  rw [Rs.post_bind] at q
  refine ⟨m1, env, st1, S1, R.mv f1, Rs.post_mono q (fun ws st2 q vs H2 m2 f2 S2 r2 => ?_) fun _ _ q => okX.tr f1 q⟩
  exact q (v :: vs) H2 m2 (f1.trans f2) S2 (.cons (r1.mv f2) r2)
theorem de_bin {op : Operator} {f : PyData → PyData → Option PyData} (ho : OpR X (binaryOp op) (rD X.K f)) (ha : DE X a ca) (hb : DE X b cb) : DE X (.BinOp a op b pos) (eOp2 f ca cb) :=
  ⟨fun W tk => PE.imp (pe_op ho (ha.pe W tk) (hb.pe W tk)) fun σ H Q => te_two f⟩
theorem de_un {op : UnaryOp} {f : PyData → Option PyData} (ho : UnR X (unaryOp op) (rU1 X.K f)) (ha : DE X a ca) : DE X (.UnaryOp op a pos) (eOp1 f ca) :=
  ⟨fun W tk => PE.imp (pe_un ho (ha.pe W tk)) fun σ H Q => te_one f⟩
theorem de_cmp {op : CmpOp} {f : PyData → PyData → Option PyData} (ho : OpR X (compareOp op) (rD X.K f)) (ha : DE X a ca) (hb : DE X b cb) (hm : behindInMarks op b = false) : DE X (.Compare a [op] [b] pos) (eOp2 f ca cb) :=
  ⟨fun W tk => PE.imp (pe_cmpR ho (ha.pe W tk) (hb.pe W tk) hm) fun σ H Q => te_two f⟩
/-- tests of bools -/
def tBl (c : En → Sto → Rs Wv) : En → Sto → Rs Bool := fun env st => (c env st).bind fun w st1 => match w with
  | .d (.bool b) => .ok b st1
  | _ => .no
theorem tt_of {Q : Bool → Hp → Prop} {c : En → Sto → Rs Wv} (h : tT X W (tBl c) σ H Q) : tE X W c σ H fun x H' => ∃ k, x = .bl k ∧ Q k H' := by
  obtain ⟨m, env, st, S, R, hp⟩ := h
  unfold tBl at hp
  rw [Rs.post_bind] at hp
  refine ⟨m, env, st, S, R, Rs.post_mono hp (fun w st1 q v H1 m1 f1 S1 r1 => ?_) fun _ _ q => q⟩
  split at q
  · cases r1
    exact ⟨_, rfl, q H1 m1 f1 S1⟩
  · exact q.elim
theorem dt_cmp {op : CmpOp} {f : PyData → PyData → Option PyData} (ho : OpR X (compareOp op) (rD X.K f)) (ha : DE X a ca) (hb : DE X b cb) (hm : behindInMarks op b = false) : DT X (.Compare a [op] [b] pos) (tBl (eOp2 f ca cb)) :=
  ⟨fun W tk => PT.imp (pt_cmpR ho (ha.pe W tk) (hb.pe W tk) hm) fun σ H Q h => te_two f (tt_of h)⟩
theorem te_chain {f g : PyData → PyData → Option PyData} {Q : VK} (h : tE X W (eChain f g ca cb cc) σ H Q) : tChain (rD X.K f) (rD X.K g) (tE X W ca) (tE X W cb) (tE X W cc) σ H Q := by
  obtain ⟨m, env, st, S, R, hp⟩ := h
  unfold eChain at hp
  rw [Rs.post_bind] at hp
  refine ⟨m, env, st, S, R, Rs.post_mono hp (fun w st1 q v H1 m1 f1 S1 r1 => ?_) fun _ _ q => q⟩
  rw [Rs.post_bind] at q
  refine ⟨m1, env, st1, S1, R.mv f1, Rs.post_mono q (fun w2 st2 q v2 H2 m2 f2 S2 r2 => ?_) fun _ _ q => okX.tr f1 q⟩
  obtain ⟨d, e1, q⟩ := look1_post q
  obtain ⟨e, e2, q⟩ := look1_post q
  split at q
  · rename_i e3
    refine ⟨_, d, e, _, fun a => S2.fresh, look_rt S2 (r1.mv f2) e1, look_rt S2 r2 e2, e3, fun z H' g0 h => ?_⟩
    cases h
    refine ⟨true, rfl, ?_⟩
    rw [if_pos rfl]
    have g2 : Fol m2 st2.length H2 m2 st2.length H' := .same g0
    rw [Rs.post_bind] at q
    refine ⟨m2, env, st2, S2.grow g0, (R.mv f1).mv (f2.trans g2), Rs.post_mono q (fun w3 st3 q v3 H3 m3 f3 S3 r3 => ?_) fun _ _ q => okX.tr (f1.trans (f2.trans g2)) q⟩
    obtain ⟨e', e4, q⟩ := look1_post q
    obtain ⟨y, e5, q⟩ := look1_post q
    obtain ⟨r, e6, q⟩ := ret1_post q
    exact ⟨_, e', y, r, fun a => S3.fresh, look_rt S3 ((r2.mv g2).mv f3) e4, look_rt S3 r3 e5, e6, okE.out ((f1.trans (f2.trans g2)).trans f3) S3 q⟩
  · rename_i e3
    refine ⟨_, d, e, _, fun a => S2.fresh, look_rt S2 (r1.mv f2) e1, look_rt S2 r2 e2, e3, fun z H' g0 h => ?_⟩
    cases h
    refine ⟨false, rfl, ?_⟩
    rw [if_neg Bool.false_ne_true]
    exact q _ _ m2 ((f1.trans f2).trans (.same g0)) (S2.grow g0) (.bl false)
  · exact q.elim
theorem de_chain {op op' : CmpOp} {f g : PyData → PyData → Option PyData} {c : Expr} (ho : OpR X (compareOp op) (rD X.K f)) (ho' : OpR X (compareOp op') (rD X.K g)) (ha : DE X a ca) (hb : DE X b cb) (hc : DE X c cc)
    (hm : lastMarks [op, op'] [b, c] = false := by with_unfolding_all rfl) : DE X (.Compare a [op, op'] [b, c] pos) (eChain f g ca cb cc) :=
  ⟨fun W tk => PE.imp (pe_chain ho ho' (ha.pe W tk) (hb.pe W tk) (hc.pe W tk) hm) fun σ H Q => te_chain⟩
theorem dt_chain {op op' : CmpOp} {f g : PyData → PyData → Option PyData} {c : Expr} (ho : OpR X (compareOp op) (rD X.K f)) (ho' : OpR X (compareOp op') (rD X.K g)) (ha : DE X a ca) (hb : DE X b cb) (hc : DE X c cc)
    (hm : lastMarks [op, op'] [b, c] = false := by with_unfolding_all rfl) : DT X (.Compare a [op, op'] [b, c] pos) (tBl (eChain f g ca cb cc)) :=
  ⟨fun W tk => PT.imp (pt_chain ho ho' (ha.pe W tk) (hb.pe W tk) (hc.pe W tk) hm) fun σ H Q h => te_chain (tt_of h)⟩
/-! ### truth, and, or, not -/
theorem truV_of {v : V} {d : PyData} {Z : Addr → Prop} (r : RT X.K H Z v d) (h : strOk d = true) : TruV X.K v H (truD d) := by
  cases d with
  | none => rw [r.non]; rfl
  | bool b => rw [r.bl]; rfl
  | int i => rw [r.int]; rfl
  | str x =>
    rw [r.str]
    refine ⟨Nat.le_trans (of_decide_eq_true h) line_lim, ?_⟩
    show (x.length != 0) = ((x.length : Int) != 0)
    cases x.length <;> rfl
  | list xs =>
    obtain ⟨a, vs, rfl, h1, h2⟩ := r.lst
    refine .inl ⟨vs, h1.sq, ?_⟩
    cases h2 <;> rfl
  | tuple xs =>
    obtain ⟨a, vs, rfl, h1, h2⟩ := r.tup
    refine .inr (.inl ⟨vs, h1, ?_⟩)
    cases h2 <;> rfl
  | dict es => cases h
theorem tru_post {w : Wv} {Q : Bool → Sto → Prop} {R : Xc → Sto → Prop} (h : (tru w st).post Q R) : ∃ d, look st w = some d ∧ strOk d = true ∧ Q (truD d) st := by
  unfold tru at h
  split at h
  · split at h
    · exact ⟨_, by assumption, by assumption, h⟩
    · exact h.elim
  · exact h.elim
theorem dt_val (ha : DE X a ca) (he : ∀ whole, isTrue a X.env whole = (do let v ← whole; standAt a.pos; holding [v] (truthy v)) := by intro _; rfl) : DT X a (tTru ca) := by
  refine ⟨fun W tk => PT.imp (pt_truth (ha.pe W tk) he) fun σ H Q ⟨m, env, st, S, R, hp⟩ => ?_⟩
  unfold tTru at hp
  rw [Rs.post_bind] at hp
  refine ⟨m, env, st, S, R, Rs.post_mono hp (fun w st1 q v H1 m1 f1 S1 r1 => ?_) fun _ _ q => q⟩
  obtain ⟨d, e1, e2, q⟩ := tru_post q
  exact ⟨_, truV_of (look_rt S1 r1 e1) e2, q H1 m1 f1 S1⟩
/-- a test whatever its 'whole' is -/
structure DW (X : Cx) (e : Expr) (c : En → Sto → Rs Bool) : Prop where
  pw : ∀ W, Takes X W → PW X e (tT X W c)
theorem DW.dt {e : Expr} {c : En → Sto → Rs Bool} (h : DW X e c) : DT X e c := ⟨fun W tk => (h.pw W tk).pt⟩
variable {ta tb : En → Sto → Rs Bool} {rest : List Expr}
theorem dw_and1 (ha : DT X a ta) : DW X (.BoolOp .And [a] pos) ta := ⟨fun W tk => pw_and1 (ha.pt W tk)⟩
theorem dw_or1 (ha : DT X a ta) : DW X (.BoolOp .Or [a] pos) ta := ⟨fun W tk => pw_or1 (ha.pt W tk)⟩
theorem dw_and (ha : DT X a ta) (hb : DW X (.BoolOp .And (b :: rest) pos) tb) : DW X (.BoolOp .And (a :: b :: rest) pos) (tAnd2 ta tb) := by
  refine ⟨fun W tk => PW.imp (pw_and (ha.pt W tk) (hb.pw W tk)) fun σ H Q ⟨m, env, st, S, R, hp⟩ => ?_⟩
  unfold tAnd2 at hp
  rw [Rs.post_bind] at hp
  refine ⟨m, env, st, S, R, Rs.post_mono hp (fun x st1 q H1 m1 f1 S1 => ?_) fun _ _ q => q⟩
  cases x with
  | true => exact ⟨m1, env, st1, S1, R.mv f1, Rs.post_mono q (fun y st2 q H2 m2 f2 S2 => q H2 m2 (f1.trans f2) S2) fun _ _ q => okX.tr f1 q⟩
  | false => exact q H1 m1 f1 S1
theorem dw_or (ha : DT X a ta) (hb : DW X (.BoolOp .Or (b :: rest) pos) tb) : DW X (.BoolOp .Or (a :: b :: rest) pos) (tOr2 ta tb) := by
  refine ⟨fun W tk => PW.imp (pw_or (ha.pt W tk) (hb.pw W tk)) fun σ H Q ⟨m, env, st, S, R, hp⟩ => ?_⟩
  unfold tOr2 at hp
  rw [Rs.post_bind] at hp
  refine ⟨m, env, st, S, R, Rs.post_mono hp (fun x st1 q H1 m1 f1 S1 => ?_) fun _ _ q => q⟩
  cases x with
  | false => exact ⟨m1, env, st1, S1, R.mv f1, Rs.post_mono q (fun y st2 q H2 m2 f2 S2 => q H2 m2 (f1.trans f2) S2) fun _ _ q => okX.tr f1 q⟩
  | true => exact q H1 m1 f1 S1
theorem dt_not (ha : DT X a ta) : DT X (.UnaryOp .Not a pos) (tNot1 ta) := by
  refine ⟨fun W tk => PT.imp (pt_not (ha.pt W tk)) fun σ H Q ⟨m, env, st, S, R, hp⟩ => ?_⟩
  unfold tNot1 at hp
  rw [Rs.post_bind] at hp
  exact ⟨m, env, st, S, R, Rs.post_mono hp (fun x st1 q H1 m1 f1 S1 => q H1 m1 f1 S1) fun _ _ q => q⟩
/-- as values -/
theorem de_one {op : BoolOp} (ha : DE X a ca) : DE X (.BoolOp op [a] pos) ca := ⟨fun W tk => pe_one (ha.pe W tk)⟩
theorem de_and (ha : DE X a ca) (hb : DE X (.BoolOp .And (b :: rest) pos) cb) : DE X (.BoolOp .And (a :: b :: rest) pos) (eAnd2 ca cb) := by
  refine ⟨fun W tk => PE.imp (pe_andT (ha.pe W tk) (hb.pe W tk)) fun σ H Q ⟨m, env, st, S, R, hp⟩ => ?_⟩
  unfold eAnd2 at hp
  rw [Rs.post_bind] at hp
  refine ⟨m, env, st, S, R, Rs.post_mono hp (fun w st1 q v H1 m1 f1 S1 r1 => ?_) fun _ _ q => q⟩
  rw [Rs.post_bind] at q
  obtain ⟨d, e1, e2, q⟩ := tru_post q
  refine ⟨_, truV_of (look_rt S1 r1 e1) e2, ?_⟩
  cases q2 : truD d with
  | true =>
    rw [q2, if_pos rfl] at q
    exact ⟨m1, env, st1, S1, R.mv f1, Rs.post_mono q (fun y st2 q v2 H2 m2 f2 S2 r2 => q v2 H2 m2 (f1.trans f2) S2 r2) fun _ _ q => okX.tr f1 q⟩
  | false =>
    rw [q2, if_neg Bool.false_ne_true] at q
    exact q v H1 m1 f1 S1 r1
theorem de_not (ha : DE X a ca) : DE X (.UnaryOp .Not a pos) (eNot1 ca) := by
  refine ⟨fun W tk => PE.imp (pe_notT (ha.pe W tk)) fun σ H Q ⟨m, env, st, S, R, hp⟩ => ?_⟩
  unfold eNot1 at hp
  rw [Rs.post_bind] at hp
  refine ⟨m, env, st, S, R, Rs.post_mono hp (fun w st1 q v H1 m1 f1 S1 r1 => ?_) fun _ _ q => q⟩
  rw [Rs.post_bind] at q
  obtain ⟨d, e1, e2, q⟩ := tru_post q
  exact ⟨_, truV_of (look_rt S1 r1 e1) e2, q _ H1 m1 f1 S1 (.bl _)⟩
theorem de_if {c : Expr} (hc : DT X c ta) (ha : DE X a ca) (hb : DE X b cb) : DE X (.IfExp c a b pos) (eIf ta ca cb) := by
  refine ⟨fun W tk => PE.imp (pe_ifExp (hc.pt W tk) (ha.pe W tk) (hb.pe W tk)) fun σ H Q ⟨m, env, st, S, R, hp⟩ => ?_⟩
  unfold eIf at hp
  rw [Rs.post_bind] at hp
  refine ⟨m, env, st, S, R, Rs.post_mono hp (fun x st1 q H1 m1 f1 S1 => ?_) fun _ _ q => q⟩
  cases x with
  | true => exact ⟨m1, env, st1, S1, R.mv f1, Rs.post_mono q (fun y st2 q v2 H2 m2 f2 S2 r2 => q v2 H2 m2 (f1.trans f2) S2 r2) fun _ _ q => okX.tr f1 q⟩
  | false => exact ⟨m1, env, st1, S1, R.mv f1, Rs.post_mono q (fun y st2 q v2 H2 m2 f2 S2 r2 => q v2 H2 m2 (f1.trans f2) S2 r2) fun _ _ q => okX.tr f1 q⟩
/-! ### displays -/
theorem allD_rp {vs : List V} {ws : List Wv} {ds : List PyData} (r : RWs X.K H m st.length vs ws) (e : allD ws = some ds) : RpA X.K H (Off m st.length) vs ds := by
  induction r generalizing ds with
  | nil => cases e; exact .nil
  | @cons v vs w ws r1 r2 ih =>
    cases w with
    | d x =>
      rw [allD_cons] at e
      cases q : allD ws with
      | none => rw [q] at e; cases e
      | some es =>
        rw [q] at e
        cases e
        exact .cons r1 (ih q)
    | r i => cases e
    | x a c d => cases e
theorem disp_post {f : List PyData → Rs Wv} {ws : List Wv} {Q : Wv → Sto → Prop} {R : Xc → Sto → Prop} (h : (match allD ws with | some ds => if ds.length ≤ 1000000 then f ds else .no | none => .no : Rs Wv).post Q R) :
    ∃ ds, allD ws = some ds ∧ ds.length ≤ 1000000 ∧ (f ds).post Q R := by
  split at h
  · split at h
    · exact ⟨_, by assumption, by assumption, h⟩
    · exact h.elim
  · exact h.elim
theorem de_tup {es : List Expr} {cs : En → Sto → Rs (List Wv)} {x1} (ha : DA X es cs) : DE X (.Tuple es x1 pos) (eTup cs) := by
  refine ⟨fun W tk => PE.imp (pe_tup (ha.pa W tk)) fun σ H Q ⟨m, env, st, S, R, hp⟩ => ?_⟩
  unfold eTup at hp
  rw [Rs.post_bind] at hp
  refine ⟨m, env, st, S, R, Rs.post_mono hp (fun ws st1 q vs H1 m1 f1 S1 r1 => ?_) fun _ _ q => q⟩
  obtain ⟨ds, e1, e2, q⟩ := disp_post (f := fun ds => .ok (.d (.tuple ds)) st1) q
  have ra := allD_rp r1 e1
  refine ⟨by rw [ra.len]; exact Nat.le_trans e2 line_lim, fun p hn => ?_⟩
  have g := grow_upd (o := .tup vs) hn
  exact q _ _ m1 (f1.trans (.same g)) (S1.grow g) (.tup (.inl upd_same) (ra.mv (Fol.same (m := m1) (n := st1.length) g).kp))
theorem de_lst {es : List Expr} {cs : En → Sto → Rs (List Wv)} (ha : DA X es cs) : DE X (.List es pos) (eLst cs) := by
  refine ⟨fun W tk => PE.imp (pe_lst (ha.pa W tk)) fun σ H Q ⟨m, env, st, S, R, hp⟩ => ?_⟩
  unfold eLst at hp
  rw [Rs.post_bind] at hp
  refine ⟨m, env, st, S, R, Rs.post_mono hp (fun ws st1 q vs H1 m1 f1 S1 r1 => ?_) fun _ _ q => q⟩
  obtain ⟨ds, e1, e2, q⟩ := disp_post (f := fun ds => .ok (.d (.list ds)) st1) q
  have ra := allD_rp r1 e1
  refine ⟨by rw [ra.len]; exact Nat.le_trans e2 line_lim, fun p hn => ?_⟩
  have g := grow_upd (o := .lst vs) hn
  exact q _ _ m1 (f1.trans (.same g)) (S1.grow g) (.lst (.inl ⟨upd_same, S1.fresh hn⟩) (ra.mv (Fol.same (m := m1) (n := st1.length) g).kp))
/-- a new object of the store -/
def mup (m : Mp) (n : Nat) (p : Addr) : Mp := ⟨fun i => if i = n then p else m.ix i, m.F⟩
theorem mup_old {n : Nat} {p : Addr} {i : Nat} (h : i < n) : (mup m n p).ix i = m.ix i := if_neg (by omega)
theorem mup_new {n : Nat} {p : Addr} : (mup m n p).ix n = p := if_pos rfl
theorem fol_new {n : Nat} {p : Addr} {o : HO} (hn : H p = none) : Fol m n H (mup m n p) (n + 1) (upd H p o) where
  tup a xs h := grow_upd hn a _ h
  frz a u x h := grow_upd hn a _ h
  rest a u _ h _ := grow_upd hn a _ h
  old i hi := mup_old hi
  new i h1 h2 := by
    have e : i = n := by omega
    rw [e, mup_new]
    exact nn_no hn
  le := Nat.le_succ n
  dom := domOf (grow_upd hn)
  eF _ _ := Iff.rfl
theorem Sim.new {K : Frg} {H : Hp} {m : Mp} {st : Sto} {p : Addr} {o : HO} {ob : Ob} (S : Sim K H m st) (hn : H p = none) (h : ObAt K (upd H p o) (mup m st.length p) (st.length + 1) p ob) : Sim K (upd H p o) (mup m st.length p) (st ++ [ob]) := by
  have f : Fol m st.length H (mup m st.length p) (st.length + 1) (upd H p o) := fol_new hn
  have hl : (st ++ [ob]).length = st.length + 1 := by simp
  refine ⟨fun i u e => ?_, fun i j hi hj e => ?_, fun a z => f.dom a (S.ff a z), fun i hi => ?_, S.tb.ext (grow_upd hn)⟩
  · rw [hl]
    by_cases q : i < st.length
    · rw [List.getElem?_append_left q] at e
      rw [mup_old q]
      exact (S.ob i u e).mv f fun x => grow_upd hn _ x
    · have e2 : i = st.length := by
        have := (List.getElem?_eq_some_iff.mp e).1
        rw [hl] at this
        omega
      subst e2
      simp at e
      subst e
      rw [mup_new]
      exact h
  · rw [hl] at hi hj
    have key : ∀ x, x < st.length → (mup m st.length p).ix x ≠ p := fun x hx z => by
      rw [mup_old hx] at z
      exact nn_no hn (z ▸ S.there hx)
    by_cases h1 : i < st.length
    · by_cases h2 : j < st.length
      · rw [mup_old h1, mup_old h2] at e
        exact S.inj i j h1 h2 e
      · have : j = st.length := by omega
        subst this
        rw [mup_new] at e
        exact absurd e (key i h1)
    · have : i = st.length := by omega
      subst this
      by_cases h2 : j < st.length
      · rw [mup_new] at e
        exact absurd e.symm (key j h2)
      · omega
  · rw [hl] at hi
    by_cases q : i < st.length
    · rw [mup_old q]; exact S.fi i q
    · have : i = st.length := by omega
      subst this
      rw [mup_new]
      exact fun z => nn_no hn (S.ff p z)
theorem de_newl {es : List Expr} {cs : En → Sto → Rs (List Wv)} (ha : DA X es cs) : DE X (.List es pos) (eNewL cs) := by
  refine ⟨fun W tk => PE.imp (pe_lst (ha.pa W tk)) fun σ H Q ⟨m, env, st, S, R, hp⟩ => ?_⟩
  unfold eNewL at hp
  rw [Rs.post_bind] at hp
  refine ⟨m, env, st, S, R, Rs.post_mono hp (fun ws st1 q vs H1 m1 f1 S1 r1 => ?_) fun _ _ q => q⟩
  obtain ⟨ds, e1, e2, q⟩ := disp_post (f := fun ds => .ok (.r st1.length) (st1 ++ [.lst ds])) q
  have ra := allD_rp r1 e1
  refine ⟨by rw [ra.len]; exact Nat.le_trans e2 line_lim, fun p hn => ?_⟩
  have f2 : Fol m1 st1.length H1 (mup m1 st1.length p) (st1.length + 1) (upd H1 p (.lst vs)) := fol_new hn
  have hl : (st1 ++ [Ob.lst ds]).length = st1.length + 1 := by simp
  refine q _ _ _ ?_ (S1.new hn ⟨vs, upd_same, ra.mv f2.kp⟩) ?_
  · rw [hl]; exact f1.trans f2
  · rw [hl]; exact ⟨Nat.lt_succ_self _, by rw [mup_new]⟩
/-- a dict is pinned as it stands -/
theorem Inv.freeze {pins : List (Addr × Obj)} {σ : L2.St} {H : Hp} {s : Shared} {a : Addr} {u : HO} (I : Inv X pins σ H s) (h : H a = some u) (hu : (∃ ks, u = .dK ks) ∨ ∃ ks, u = .dT ks) : ∃ o, Inv X pins σ (upd H a (.frz o u)) s := by
  have ok : ObjOk X.prog X.w H s.heap a u := I.hok a u h
  obtain ⟨o, ho⟩ : ∃ o, s.heap.get? a = some o := by
    rcases hu with ⟨ks, rfl⟩ | ⟨ks, rfl⟩
    · obtain ⟨_, _, _, _, o, _, _, ho, _⟩ := (show ObjOk X.prog X.w H s.heap a (.dK ks) from ok)
      exact ⟨o, ho⟩
    · obtain ⟨_, _, _, _, o, _, _, ho, _⟩ := (show ObjOk X.prog X.w H s.heap a (.dT ks) from ok)
      exact ⟨o, ho⟩
  refine ⟨o, I.write (t' := s.toks) (x := a) (e := a) (h' := s.heap) (by rw [h]; rcases hu with ⟨ks, rfl⟩ | ⟨ks, rfl⟩ <;> exact True.intro) (.inl rfl) (fun _ _ _ q => q) ⟨o, ho⟩ ⟨ho, ?_⟩⟩
  rcases hu with ⟨ks, rfl⟩ | ⟨ks, rfl⟩
  · exact ok
  · obtain ⟨h1, h2, xs, h3, h4⟩ := (show ObjOk X.prog X.w H s.heap a (.dT ks) from ok)
    refine ⟨h1, h2, xs, ?_, h4⟩
    refine Paired.mono (fun p q z => ⟨z.1, ?_, z.2.2⟩) h3
    rw [upd_ne (fun e => by rw [e, h] at z; exact nomatch Option.some.inj z.2.1)]
    exact z.2.1
theorem pe_freeze {e : Expr} {t : TE} (h : PE X e t) : PE X e (fun σ H Q => t σ H fun v H1 => (∃ a u, v = .ref a ∧ H1 a = some u ∧ ((∃ ks, u = .dK ks) ∨ ∃ ks, u = .dT ks) ∧ ∀ o, Q v (upd H1 a (.frz o u)))) := ⟨fun pins s σ H Q I q =>
  thn (h.run pins s σ H _ I q) fun u s1 ⟨v, H1, I1, rv, a, w, ev, ha, hw, q1⟩ => by
    obtain ⟨o, J⟩ := Inv.freeze I1 ha hw
    exact ⟨v, _, J, rv, q1 o⟩⟩
end
end
section
variable [Wtp] [Tbl]
section
variable {X : Cx} {pins : List (Addr × Obj)} {σ : L2.St} {H : Hp} {s : Shared}
/-! ## arithmetic -/
def bigOk (i j : Int) : Bool := decide (i.natAbs < 18446744073709551616) || decide (j.natAbs < 18446744073709551616)
def addD : PyData → PyData → Option PyData
  | .int i, .int j => some (.int (i + j))
  | .str x, .str y => if x.length + y.length ≤ 1000000 then some (.str (x ++ y)) else none
  | .tuple xs, .tuple ys => if xs.length + ys.length ≤ 1000000 then some (.tuple (xs ++ ys)) else none
  | .list xs, .list ys => if xs.length + ys.length ≤ 1000000 then some (.list (xs ++ ys)) else none
  | _, _ => none
def subD : PyData → PyData → Option PyData
  | .int i, .int j => some (.int (i - j))
  | _, _ => none
def mulD : PyData → PyData → Option PyData
  | .int i, .int j => if bigOk i j then some (.int (i * j)) else none
  | .tuple xs, .int k => if k = 1 then some (.tuple xs) else if 2 ≤ k ∧ k ≤ 1000 ∧ xs.length ≤ 1000 ∧ xs ≠ [] then some (.tuple (List.replicate k.toNat xs).flatten) else if xs = [] ∧ 0 ≤ k ∧ k ≤ 1000 then some (.tuple []) else none
  | .list xs, .int k => if 0 ≤ k ∧ k ≤ 1000 ∧ xs.length ≤ 1000 then some (.list (List.replicate k.toNat xs).flatten) else none
  | _, _ => none
def divD : PyData → PyData → Option PyData
  | .int i, .int j => if 0 < j ∧ j < 1073741824 then some (.int (i / j)) else if 0 < j ∧ j < 1606938044258990275541962092341162602522202993782792835301376 then some (.int (i / j)) else none
  | _, _ => none
def modD : PyData → PyData → Option PyData
  | .int i, .int j => if 0 < j then some (.int (i % j)) else none
  | _, _ => none
def powD : PyData → PyData → Option PyData
  | .int i, .int j => if 0 ≤ j ∧ j ≤ 1000 ∧ i.natAbs < 18446744073709551616 then some (.int (i ^ j.toNat)) else none
  | _, _ => none
def negD : PyData → Option PyData
  | .int i => some (.int (-i))
  | _ => none
theorem rout_here {Z : Addr → Prop} {r : PyData} {Q : VK} {v : V} (h : rOut X.K H Z r Q) (q : Rp X.K H Z v r) : Q v H := h v H (fun _ _ e => e) q
theorem rout_lst {Z : Addr → Prop} {ds : List PyData} {vs : List V} {Q : VK} (hz : ∀ a, H a = none → Z a) (h : rOut X.K H Z (.list ds) Q) (q : RpA X.K H Z vs ds) : ∀ p, H p = none → Q (.ref p) (upd H p (.lst vs)) := fun p hn =>
  h _ _ (grow_upd hn) (.lst (.inl ⟨upd_same, hz p hn⟩) (q.mv ⟨fun a xs e => grow_upd hn a _ e, fun a o u e => grow_upd hn a _ e, fun a o _ e z => ⟨grow_upd hn a _ e, z⟩⟩))
theorem rout_tup {Z : Addr → Prop} {ds : List PyData} {vs : List V} {Q : VK} (h : rOut X.K H Z (.tuple ds) Q) (q : RpA X.K H Z vs ds) : ∀ p, H p = none → Q (.ref p) (upd H p (.tup vs)) := fun p hn =>
  h _ _ (grow_upd hn) (.tup (.inl upd_same) (q.mv ⟨fun a xs e => grow_upd hn a _ e, fun a o u e => grow_upd hn a _ e, fun a o _ e z => ⟨grow_upd hn a _ e, z⟩⟩))
/-- list + list, whoever holds them -/
theorem op_catP : OpR X (binaryOp .Add) (fun x y H Q => ∃ l b xs zs, x = .ref l ∧ y = .ref b ∧ LsX X.K H l xs ∧ LsX X.K H b zs ∧ xs.length + zs.length ≤ sizeLine ∧ ∀ p, H p = none → Q (.ref p) (upd H p (.lst (xs ++ zs)))) := by
  intro pins s σ H x y v u Q I rx ry h
  obtain ⟨l, b, xs, zs, rfl, rfl, hH, hB, hz, q⟩ := h
  cases rx
  cases ry
  obtain ⟨its, n, r, e, _, l1⟩ := Inv.lsx I hH
  obtain ⟨its2, n2, r2, e2, _, l2⟩ := Inv.lsx I hB
  refine PySem.P.add_list e e2 ?_ (by rw [List.size_toArray, List.size_toArray]; omega)
  have ea : its.toArray ++ its2.toArray = (its ++ its2).toArray := by simp
  rw [ea]
  exact ⟨.ref _, _, I.lnew (t' := s.toks) (r.append r2) (by rw [List.length_append]; omega), rfl, q _ I.fresh⟩
theorem o_add : OpR X (binaryOp .Add) (rD X.K addD) := by
  intro pins s σ H x y v u Q I rx ry ⟨Z, d, e, r, hz, hd, he, hf, ho⟩
  unfold addD at hf
  split at hf
  · cases hf
    exact op_add pins s σ H x y v u Q I rx ry ⟨_, _, hd.int, he.int, rout_here ho (.int _)⟩
  · split at hf
    · cases hf
      exact op_add_str pins s σ H x y v u Q I rx ry ⟨_, _, hd.str, he.str, Nat.le_trans (by assumption) line_lim, rout_here ho (.str _)⟩
    · cases hf
  · split at hf
    · cases hf
      obtain ⟨a, vs, rfl, h1, h2⟩ := hd.tupT
      obtain ⟨b, ws, rfl, k1, k2⟩ := he.tupT
      have l1 := h2.len
      have l2 := k2.len
      refine op_catA pins s σ H _ _ v u Q I rx ry ⟨a, b, vs, ws, rfl, rfl, h1.sq, k1.sq, Nat.le_trans (by omega) line_lim, fun e => ?_, fun e1 e => ?_, fun _ _ => rout_tup ho (h2.app k2)⟩
      · subst e
        cases h2
        exact rout_here ho (.tup k1 k2)
      · subst e
        cases k2
        rw [List.append_nil] at ho
        exact rout_here ho (.tup h1 h2)
    · cases hf
  · split at hf
    · cases hf
      obtain ⟨a, vs, rfl, h1, h2⟩ := hd.lst
      obtain ⟨b, ws, rfl, k1, k2⟩ := he.lst
      have l1 := h2.len
      have l2 := k2.len
      exact op_catP pins s σ H _ _ v u Q I rx ry ⟨a, b, vs, ws, rfl, rfl, h1, k1, Nat.le_trans (by omega) line_lim, rout_lst hz ho (h2.app k2)⟩
    · cases hf
  · cases hf
theorem o_sub : OpR X (binaryOp .Sub) (rD X.K subD) := by
  intro pins s σ H x y v u Q I rx ry ⟨Z, d, e, r, hz, hd, he, hf, ho⟩
  unfold subD at hf
  split at hf
  · cases hf
    exact op_sub pins s σ H x y v u Q I rx ry ⟨_, _, hd.int, he.int, rout_here ho (.int _)⟩
  · cases hf
theorem cmul_of {i j : Int} (h : bigOk i j = true) : CMul i j := by
  unfold bigOk at h
  rw [Bool.or_eq_true, decide_eq_true_eq, decide_eq_true_eq] at h
  rcases h with h | h
  · exact .inl ⟨by omega, by omega⟩
  · exact .inr ⟨by omega, by omega⟩
theorem RpA.rep {K : Frg} {H : Hp} {Z : Addr → Prop} {vs : List V} {ds : List PyData} (h : RpA K H Z vs ds) : ∀ n : Nat, RpA K H Z (List.replicate n vs).flatten (List.replicate n ds).flatten
  | 0 => .nil
  | n + 1 => by
    rw [List.replicate_succ, List.replicate_succ, List.flatten_cons, List.flatten_cons]
    exact h.app (RpA.rep h n)
/-- list * int, whoever holds it -/
theorem op_repP : OpR X (binaryOp .Mult) (fun x y H Q => ∃ l k xs, x = .ref l ∧ y = .int k ∧ LsX X.K H l xs ∧ 0 ≤ k ∧ k ≤ 1000 ∧ xs.length ≤ 1000 ∧ ∀ p, H p = none → Q (.ref p) (upd H p (.lst (List.replicate k.toNat xs).flatten))) := by
  intro pins s σ H x y v u Q I rx ry h
  obtain ⟨l, k, xs, rfl, rfl, hH, h1, h2, hl, q⟩ := h
  cases rx
  obtain ⟨t, rfl⟩ := ry
  obtain ⟨its, n, r, e, _, l1⟩ := Inv.lsx I hH
  have line := line_lim
  have small : its.toArray.size * k.toNat ≤ 1000000 := by
    rw [List.size_toArray]
    exact Nat.le_trans (Nat.mul_le_mul (show its.length ≤ 1000 by omega) (show k.toNat ≤ 1000 by omega)) (by decide)
  have c1 : ¬ its.toArray.size * k.toNat > (2 ^ 63 - 1) / 8 := by omega
  have c2 : ¬ (!Builtin.List.listFitsIndex k) = true := by
    rw [fitsIndex_both (by omega) (by omega)]
    exact Bool.false_ne_true
  have c3 : ¬ Builtin.List.listTooLong (its.toArray.size * k.toNat) = true := by
    rw [notLongL (by omega)]
    exact Bool.false_ne_true
  have made : List.foldl (fun a b => a ++ b) #[] (List.replicate (if its.toArray.isEmpty = true then 0 else k.toNat) its.toArray) = (List.replicate k.toNat its).flatten.toArray := by
    rw [size_rep]
    cases its with
    | nil => simp
    | cons a r' => rw [if_neg (by simp)]
  have big : (List.replicate k.toNat xs).flatten.length ≤ sizeLine := by
    rw [PyProof.Rows.lm_len_rep_flat]
    exact Nat.le_trans (Nat.mul_le_mul (show k.toNat ≤ 1000 by omega) hl) (Nat.le_trans (by decide) line)
  refine wpAny_binaryOp_repeat_ref (T := "list") (U := "int") (by decide) ⟨_, e, rfl⟩ (fun s' => typeIs_int s' k t) noFill_list_mul F.fills_int_mul F.slot_int_rmul repeat_list F.slot_int_index.lookup ?_
  refine call_meets F.slot_int_rmul (typeIs_int s k t) F.entry_int_rmul (F.args_int_rmul_2 _ _) (int___rmul___int_list k t l its.toArray n) ⟨e, rfl, ⟨_, e, rfl⟩, ?_⟩
  refine call_meets F.slot_list_mul ⟨_, e, rfl⟩ F.entry_list_mul (F.args_list_mul_2 _ _) (AutoListH.list___mul___list_int_3 l its.toArray n k t c2 c1 c3) ⟨e, ?_⟩
  rw [made]
  exact ⟨.ref _, _, I.lnew (t' := s.toks) (r.rep k.toNat) big, rfl, q _ I.fresh⟩
theorem tuple_mulS (l : Addr) (items : Array Value) (n : Nat) (dd : Option Addr) (sl : Array (Option Value)) (x : Int) (u : Tok) (c0 : (decide (x < -(2 ^ 63)) || decide (x ≥ 2 ^ 63)) = false) (c1 : (items.isEmpty || x == 1) = true) :
    Meets (Builtin.«tuple.__mul__» ⟨[.ref l, .int x u], []⟩) (fun _ R s => s.heap.get? l = some { cls := .type "tuple", dict := dd, data := .seq items n, slots := sl } ∧ R (.ok (.ret (Value.ref l))) s) :=
  .of_wp fun prog w A R s h => by
    obtain ⟨hp, g, d, tk, os⟩ := s
    obtain ⟨hl, h⟩ := h
    have f1 := AutoSeq1.idx_int
    wp_walk using wpAny_loadPart' hl
    repeat (first
      | (refine wpAny_ite_false (decide_eq_false (by rw [c0]; exact Bool.false_ne_true)) ?_; wp_walk using wpAny_loadPart' hl)
      | (refine wpAny_ite_false (decide_eq_false (by decide)) ?_; wp_walk using wpAny_loadPart' hl)
      | (refine wpAny_ite_true c1 ?_; wp_walk using wpAny_loadPart' hl))
    exact ⟨_, rfl, h⟩
theorem op_repT1 : OpR X (binaryOp .Mult) (fun x y H Q => ∃ l k xs, x = .ref l ∧ y = .int k ∧ SqT X.K H l xs ∧ (k = 1 ∨ xs = []) ∧ 0 ≤ k ∧ k ≤ 1000 ∧ Q (.ref l) H) := by
  intro pins s σ H x y v u Q I rx ry h
  obtain ⟨l, k, xs, rfl, rfl, hT, hk, k0, k1, q⟩ := h
  cases rx
  obtain ⟨t, rfl⟩ := ry
  obtain ⟨its, r, ⟨⟨cls, dd, data, sl⟩, ho, hc, n, hd⟩, hs⟩ := I.tuple hT
  simp only at hc hd
  subst hc hd
  have c1 : (its.toArray.isEmpty || k == 1) = true := by
    rcases hk with rfl | rfl
    · simp
    · cases r
      simp
  have c0 : (decide (k < -(2 ^ 63)) || decide (k ≥ 2 ^ 63)) = false := by
    rw [Bool.or_eq_false_iff]
    exact ⟨decide_eq_false (by omega), decide_eq_false (by omega)⟩
  refine wpAny_binaryOp_repeat_ref (T := "tuple") (U := "int") (by decide) ⟨_, ho, rfl⟩ (fun s' => typeIs_int s' k t) noFill_tuple_mul F.fills_int_mul F.slot_int_rmul repeat_tuple F.slot_int_index.lookup
    (call_meets F.slot_int_rmul (typeIs_int s k t) F.entry_int_rmul (F.args_int_rmul_2 _ _) (int_rmul_tuple k t l its.toArray n dd sl)
      ⟨ho, rfl, ⟨_, ho, rfl⟩, call_meets F.slot_tuple_mul ⟨_, ho, rfl⟩ F.entry_tuple_mul (F.args_tuple_mul_2 _ _) (tuple_mulS l its.toArray n dd sl k t c0 c1) ⟨ho, ?_⟩⟩)
  exact ⟨.ref l, H, I, rfl, q⟩
theorem o_mul : OpR X (binaryOp .Mult) (rD X.K mulD) := by
  intro pins s σ H x y v u Q I rx ry ⟨Z, d, e, r, hz, hd, he, hf, ho⟩
  unfold mulD at hf
  split at hf
  · split at hf
    · cases hf
      exact op_mul pins s σ H x y v u Q I rx ry ⟨_, _, hd.int, he.int, cmul_of (by assumption), rout_here ho (.int _)⟩
    · cases hf
  · split at hf
    · rename_i h
      cases hf
      subst h
      have ey := he.int
      subst ey
      obtain ⟨a, vs, rfl, h1, h2⟩ := hd.tupT
      exact op_repT1 pins s σ H _ _ v u Q I rx ry ⟨a, 1, vs, rfl, rfl, h1.sq, .inl rfl, by decide, by decide, rout_here ho (.tup h1 h2)⟩
    rename_i hk1
    split at hf
    · rename_i h
      cases hf
      obtain ⟨a, vs, rfl, h1, h2⟩ := hd.tup
      have l1 := h2.len
      refine op_repT pins s σ H _ _ v u Q I rx ry ⟨a, _, vs, rfl, he.int, h1, fun e => ?_, h.1, h.2.1, by omega, rout_tup ho (h2.rep _)⟩
      subst e
      cases h2
      exact h.2.2.2 rfl
    rename_i hk2
    split at hf
    · rename_i h
      cases hf
      have ey := he.int
      subst ey
      obtain ⟨rfl, h0, h9⟩ := h
      obtain ⟨a, vs, rfl, h1, h2⟩ := hd.tupT
      have ev : vs = [] := by cases h2; rfl
      exact op_repT1 pins s σ H _ _ v u Q I rx ry ⟨a, _, vs, rfl, rfl, h1.sq, .inr ev, h0, h9, rout_here ho (.tup h1 h2)⟩
    · cases hf
  · split at hf
    · rename_i h
      cases hf
      obtain ⟨a, vs, rfl, h1, h2⟩ := hd.lst
      have l1 := h2.len
      exact op_repP pins s σ H _ _ v u Q I rx ry ⟨a, _, vs, rfl, he.int, h1, h.1, h.2.1, by omega, rout_lst hz ho (h2.rep _)⟩
    · cases hf
  · cases hf
theorem op_fdivW : OpR X (binaryOp .FloorDiv) (rI (fun _ j => 0 < j ∧ j < 1606938044258990275541962092341162602522202993782792835301376) fun i j => .int (i / j)) := opI fun i j _ _ _ _ _ hc q => by
  have h1 : (0 : Int) < j := hc.1
  have h2 : j < 1606938044258990275541962092341162602522202993782792835301376 := hc.2
  have h3 : j.natAbs.log2 < 9000 := Nat.lt_of_lt_of_le ((Nat.log2_lt (by omega)).mpr (show j.natAbs < 2 ^ 200 by omega)) (by decide)
  exact floordiv_int (by omega) (by rw [Int.fdiv_eq_ediv_of_nonneg i (by omega)]; exact q) (.inl (PyProof.noPylong_of_log2 h3))
theorem o_div : OpR X (binaryOp .FloorDiv) (rD X.K divD) := by
  intro pins s σ H x y v u Q I rx ry ⟨Z, d, e, r, hz, hd, he, hf, ho⟩
  unfold divD at hf
  split at hf
  · split at hf
    · cases hf
      exact op_fdiv pins s σ H x y v u Q I rx ry ⟨_, _, hd.int, he.int, by assumption, rout_here ho (.int _)⟩
    · split at hf
      · cases hf
        exact op_fdivW pins s σ H x y v u Q I rx ry ⟨_, _, hd.int, he.int, by assumption, rout_here ho (.int _)⟩
      · cases hf
  · cases hf
theorem divD_ok {i j : Int} (h : 0 < j) (h2 : j < 1606938044258990275541962092341162602522202993782792835301376) : divD (.int i) (.int j) = some (.int (i / j)) := by
  show (if 0 < j ∧ j < 1073741824 then some (PyData.int (i / j)) else if 0 < j ∧ j < 1606938044258990275541962092341162602522202993782792835301376 then some (.int (i / j)) else none) = _
  by_cases q : j < 1073741824
  · rw [if_pos ⟨h, q⟩]
  · rw [if_neg (fun z => q z.2), if_pos ⟨h, h2⟩]
theorem o_mod : OpR X (binaryOp .Mod) (rD X.K modD) := by
  intro pins s σ H x y v u Q I rx ry ⟨Z, d, e, r, hz, hd, he, hf, ho⟩
  unfold modD at hf
  split at hf
  · split at hf
    · cases hf
      exact op_mod pins s σ H x y v u Q I rx ry ⟨_, _, hd.int, he.int, by assumption, rout_here ho (.int _)⟩
    · cases hf
  · cases hf
theorem o_pow : OpR X (binaryOp .Pow) (rD X.K powD) := by
  intro pins s σ H x y v u Q I rx ry ⟨Z, d, e, r, hz, hd, he, hf, ho⟩
  unfold powD at hf
  split at hf
  · split at hf
    · rename_i h
      cases hf
      exact op_pow pins s σ H x y v u Q I rx ry ⟨_, _, hd.int, he.int, ⟨h.1, by omega, by have := h.2.2; omega⟩, rout_here ho (.int _)⟩
    · cases hf
  · cases hf
theorem o_neg : UnR X (unaryOp .USub) (rU1 X.K negD) := by
  intro pins s σ H x v Q I rx ⟨Z, d, r, hz, hd, hf, ho⟩
  unfold negD at hf
  split at hf
  · cases hf
    exact un_neg pins s σ H x v Q I rx ⟨_, hd.int, rout_here ho (.int _)⟩
  · cases hf
end
end
section
variable [Wtp] [Tbl]
section
variable {X : Cx} {pins : List (Addr × Obj)} {σ : L2.St} {H : Hp} {s : Shared}
/-! ## comparisons -/
def cmpOk (a b : PyData) : Bool := a.plain && (b.plain && decide (min a.depth b.depth ≤ 40))
def eqD (a b : PyData) : Option PyData := if cmpOk a b then some (.bool (PyData.eqv a b)) else none
def neD (a b : PyData) : Option PyData := if cmpOk a b then some (.bool (!PyData.eqv a b)) else none
def isNone : PyData → Bool
  | .none => true
  | _ => false
def ltD' (a b : PyData) : Bool := PySem.W.alike a b && (!isNone a && decide (min a.depth b.depth ≤ 40))
def ltD : PyData → PyData → Option PyData
  | .int i, .int j => some (.bool (decide (i < j)))
  | a, b => if ltD' a b then some (.bool (PySem.W.dataLt a b)) else none
def gtD : PyData → PyData → Option PyData
  | .int i, .int j => some (.bool (decide (j < i)))
  | a, b => if ltD' a b then some (.bool (PySem.W.dataLt b a)) else none
def leD : PyData → PyData → Option PyData
  | .int i, .int j => some (.bool (decide (i ≤ j)))
  | a, b => if ltD' a b then some (.bool (!PySem.W.dataLt b a)) else none
def geD : PyData → PyData → Option PyData
  | .int i, .int j => some (.bool (decide (j ≤ i)))
  | a, b => if ltD' a b then some (.bool (!PySem.W.dataLt a b)) else none
def isND (a b : PyData) : Option PyData := if isNone b then some (.bool (isNone a)) else none
def ntND (a b : PyData) : Option PyData := if isNone b then some (.bool (!isNone a)) else none
theorem rout_bl {Z : Addr → Prop} {b : Bool} {Q : VK} {I : Inv X pins σ H s} (h : rOut X.K H Z (.bool b) Q) : EP X pins σ Q (.bool b) s := ⟨.bl b, H, I, rfl, rout_here h (.bl b)⟩
theorem room_eq {k n : Nat} {A : Around} (hr : L2H.RoomH k A) (h : n ≤ 60) : A.units + n < cLine := by have := hr.un; omega
theorem o_eq {k : Nat} (hr : L2H.RoomH k X.A) : OpR X (compareOp .Eq) (rD X.K eqD) := by
  intro pins s σ H x y v u Q I rx ry ⟨Z, d, e, r, hz, hd, he, hf, ho⟩
  unfold eqD at hf
  split at hf
  · rename_i h
    cases hf
    unfold cmpOk at h
    simp only [Bool.and_eq_true, decide_eq_true_eq] at h
    obtain ⟨as, r1⟩ := Inv.rt I hd rx
    obtain ⟨bs, r2⟩ := Inv.rt I he ry
    exact PySem.SeqAt.eq_plain r1 r2 h.1 h.2.1 (room_eq hr (by omega)) (rout_bl (I := I) ho)
  · cases hf
theorem o_ne {k : Nat} (hr : L2H.RoomH k X.A) : OpR X (compareOp .NotEq) (rD X.K neD) := by
  intro pins s σ H x y v u Q I rx ry ⟨Z, d, e, r, hz, hd, he, hf, ho⟩
  unfold neD at hf
  split at hf
  · rename_i h
    cases hf
    unfold cmpOk at h
    simp only [Bool.and_eq_true, decide_eq_true_eq] at h
    obtain ⟨as, r1⟩ := Inv.rt I hd rx
    obtain ⟨bs, r2⟩ := Inv.rt I he ry
    exact PySem.SeqAt.ne_plain r1 r2 h.1 h.2.1 (room_eq hr (by omega)) (rout_bl (I := I) ho)
  · cases hf
theorem ltD_of {a b : PyData} (h : ltD' a b = true) : PySem.W.alike a b = true ∧ a ≠ .none ∧ min a.depth b.depth ≤ 40 := by
  unfold ltD' at h
  simp only [Bool.and_eq_true, decide_eq_true_eq, Bool.not_eq_true'] at h
  refine ⟨h.1, fun e => ?_, h.2.2⟩
  subst e
  exact absurd h.2.1 (by decide)
theorem o_lt {k : Nat} (hr : L2H.RoomH k X.A) : OpR X (compareOp .Lt) (rD X.K ltD) := by
  intro pins s σ H x y v u Q I rx ry ⟨Z, d, e, r, hz, hd, he, hf, ho⟩
  unfold ltD at hf
  split at hf
  · cases hf
    exact op_lt pins s σ H x y v u Q I rx ry ⟨_, _, hd.int, he.int, rout_here ho (.bl _)⟩
  · split at hf
    · rename_i h
      cases hf
      obtain ⟨h1, h2, h3⟩ := ltD_of h
      obtain ⟨as, r1⟩ := Inv.rt I hd rx
      obtain ⟨bs, r2⟩ := Inv.rt I he ry
      exact PySem.W.lt_data r1 r2 h1 h2 (room_eq hr (by omega)) (rout_bl (I := I) ho)
    · cases hf
theorem o_gt {k : Nat} (hr : L2H.RoomH k X.A) : OpR X (compareOp .Gt) (rD X.K gtD) := by
  intro pins s σ H x y v u Q I rx ry ⟨Z, d, e, r, hz, hd, he, hf, ho⟩
  unfold gtD at hf
  split at hf
  · cases hf
    exact op_gt pins s σ H x y v u Q I rx ry ⟨_, _, hd.int, he.int, rout_here ho (.bl _)⟩
  · split at hf
    · rename_i h
      cases hf
      obtain ⟨h1, h2, h3⟩ := ltD_of h
      obtain ⟨as, r1⟩ := Inv.rt I hd rx
      obtain ⟨bs, r2⟩ := Inv.rt I he ry
      exact PySem.W.gt_data r1 r2 h1 h2 (room_eq hr (by omega)) (rout_bl (I := I) ho)
    · cases hf
theorem o_le {k : Nat} (hr : L2H.RoomH k X.A) : OpR X (compareOp .LtE) (rD X.K leD) := by
  intro pins s σ H x y v u Q I rx ry ⟨Z, d, e, r, hz, hd, he, hf, ho⟩
  unfold leD at hf
  split at hf
  · cases hf
    exact op_le pins s σ H x y v u Q I rx ry ⟨_, _, hd.int, he.int, rout_here ho (.bl _)⟩
  · split at hf
    · rename_i h
      cases hf
      obtain ⟨h1, h2, h3⟩ := ltD_of h
      obtain ⟨as, r1⟩ := Inv.rt I hd rx
      obtain ⟨bs, r2⟩ := Inv.rt I he ry
      exact PySem.W.le_data r1 r2 h1 h2 (room_eq hr (by omega)) (rout_bl (I := I) ho)
    · cases hf
theorem o_ge {k : Nat} (hr : L2H.RoomH k X.A) : OpR X (compareOp .GtE) (rD X.K geD) := by
  intro pins s σ H x y v u Q I rx ry ⟨Z, d, e, r, hz, hd, he, hf, ho⟩
  unfold geD at hf
  split at hf
  · cases hf
    exact op_ge pins s σ H x y v u Q I rx ry ⟨_, _, hd.int, he.int, rout_here ho (.bl _)⟩
  · split at hf
    · rename_i h
      cases hf
      obtain ⟨h1, h2, h3⟩ := ltD_of h
      obtain ⟨as, r1⟩ := Inv.rt I hd rx
      obtain ⟨bs, r2⟩ := Inv.rt I he ry
      exact PySem.W.ge_data r1 r2 h1 h2 (room_eq hr (by omega)) (rout_bl (I := I) ho)
    · cases hf
theorem isNone_v {Z : Addr → Prop} {x : V} {d : PyData} (h : RT X.K H Z x d) : decide (x = .non) = isNone d := by
  cases d with
  | none => rw [h.non]; rfl
  | bool b => rw [h.bl]; rfl
  | int i => rw [h.int]; rfl
  | str x => rw [h.str]; rfl
  | list xs => obtain ⟨a, vs, rfl, _⟩ := h.lst; rfl
  | tuple xs => obtain ⟨a, vs, rfl, _⟩ := h.tup; rfl
  | dict xs => obtain ⟨a, rfl, _⟩ := h.dic; rfl
theorem o_isN : OpR X (compareOp .Is) (rD X.K isND) := by
  intro pins s σ H x y v u Q I rx ry ⟨Z, d, e, r, hz, hd, he, hf, ho⟩
  unfold isND at hf
  split at hf
  · rename_i h
    cases hf
    have h2 := isNone_v he
    rw [h, decide_eq_true_eq] at h2
    exact op_isN pins s σ H x y v u Q I rx ry ⟨h2, by rw [isNone_v hd]; exact rout_here ho (.bl _)⟩
  · cases hf
theorem o_ntN : OpR X (compareOp .IsNot) (rD X.K ntND) := by
  intro pins s σ H x y v u Q I rx ry ⟨Z, d, e, r, hz, hd, he, hf, ho⟩
  unfold ntND at hf
  split at hf
  · rename_i h
    cases hf
    have h2 := isNone_v he
    rw [h, decide_eq_true_eq] at h2
    exact op_notN pins s σ H x y v u Q I rx ry ⟨h2, by rw [isNone_v hd]; exact rout_here ho (.bl _)⟩
  · cases hf
/-! ## in, not in -/
def inOk (d : PyData) (xs : List PyData) : Bool := d.plain && (PyData.plainAll xs && decide (min (PyData.depthAll xs) d.depth ≤ 40))
def hasKey (es : List (PyData × PyData)) (k : Key) : Bool := es.any fun e => decide (keyD e.1 = some k)
def kindK : List (PyData × PyData) → Bool
  | [] => true
  | (c, _) :: _ => (keyD c).isSome
def kindT : List (PyData × PyData) → Bool
  | [] => true
  | (c, _) :: _ => (tkD c).isSome
/-- a look-up of a tuple -/
def dLookT (es : List (PyData × PyData)) (k : List Key) : Option PyData := (es.find? fun e => decide (tkD e.1 = some k)).map (·.2)
def inB (d : PyData) : PyData → Option Bool
  | .list xs => if inOk d xs then some (xs.any fun y => PyData.eqv y d) else none
  | .tuple xs => if inOk d xs then some (xs.any fun y => PyData.eqv y d) else none
  | .dict es => match keyD d with
    | some k => if kindK es = true then some (hasKey es k) else none
    | none => match tkD d with
      | some ks => if kindT es = true then some (dLookT es ks).isSome else none
      | none => none
  | .str z => match d with
    | .str x => some (!(Builtin.Str.occurrences z x 0 z.length 1).isEmpty)
    | _ => none
  | _ => none
def inD (d c : PyData) : Option PyData := (inB d c).map .bool
def niD (d c : PyData) : Option PyData := (inB d c).map fun b => .bool (!b)
theorem inOk_of {d : PyData} {xs : List PyData} (h : inOk d xs = true) : d.plain = true ∧ PyData.plainAll xs = true ∧ min (PyData.depthAll xs) d.depth ≤ 40 := by
  unfold inOk at h
  simp only [Bool.and_eq_true, decide_eq_true_eq] at h
  exact ⟨h.1, h.2.1, h.2.2⟩
theorem keyD_v {Z : Addr → Prop} {x : V} {d : PyData} {k : Key} (h : RT X.K H Z x d) (e : keyD d = some k) : x = kV k := by
  cases d with
  | int i => cases e; exact h.int
  | str y => cases e; exact h.str
  | _ => cases e
/-- a dict's look-up -/
def dLook (es : List (PyData × PyData)) (k : Key) : Option PyData := (es.find? fun e => decide (keyD e.1 = some k)).map (·.2)
theorem dLook_rp {Z : Addr → Prop} {ks : List (Key × V)} {es : List (PyData × PyData)} (k : Key) (h : RpK X.K H Z ks es) :
    (∃ v d, valV ks k = some v ∧ dLook es k = some d ∧ Rp X.K H Z v d) ∨ (valV ks k = none ∧ dLook es k = none) := by
  induction ks generalizing es with
  | nil => cases h; exact .inr ⟨rfl, rfl⟩
  | cons p ks ih =>
    cases h with
    | @cons k0 v _ c d es h0 h1 h2 =>
      by_cases e : k0 = k
      · refine .inl ⟨v, d, valV_pos e, ?_, h1⟩
        unfold dLook
        rw [List.find?_cons_of_pos (by rw [h0, e]; simp)]
        rfl
      · have e2 : dLook ((c, d) :: es) k = dLook es k := by
          unfold dLook
          rw [List.find?_cons_of_neg (by rw [h0]; simpa using e)]
        rw [valV_neg (p := (k0, v)) e, e2]
        exact ih h2
theorem hasKey_look (es : List (PyData × PyData)) (k : Key) : hasKey es k = (dLook es k).isSome := by
  unfold hasKey dLook
  rw [Option.isSome_map, List.isSome_find?]
theorem valV_has {Z : Addr → Prop} {ks : List (Key × V)} {es : List (PyData × PyData)} (k : Key) (h : RpK X.K H Z ks es) : (valV ks k).isSome = hasKey es k := by
  rw [hasKey_look]
  rcases dLook_rp k h with ⟨v, d, e1, e2, _⟩ | ⟨e1, e2⟩
  · rw [e1, e2]; rfl
  · rw [e1, e2]; rfl
theorem tkD_keyD {c : PyData} {k : List Key} (h : tkD c = some k) : keyD c = none := by cases c <;> first | rfl | cases h
theorem dLookT_rp {Z : Addr → Prop} {ks : List (List Key × V)} {es : List (PyData × PyData)} (k : List Key) (h : RpT X.K H Z ks es) :
    (∃ v d, valV ks k = some v ∧ dLookT es k = some d ∧ Rp X.K H Z v d) ∨ (valV ks k = none ∧ dLookT es k = none) := by
  induction ks generalizing es with
  | nil => cases h; exact .inr ⟨rfl, rfl⟩
  | cons p ks ih =>
    cases h with
    | @cons k0 v _ c d es h0 h1 h2 =>
      by_cases e : k0 = k
      · refine .inl ⟨v, d, valV_pos e, ?_, h1⟩
        unfold dLookT
        rw [List.find?_cons_of_pos (by rw [h0, e]; simp)]
        rfl
      · have e2 : dLookT ((c, d) :: es) k = dLookT es k := by
          unfold dLookT
          rw [List.find?_cons_of_neg (by rw [h0]; simpa using e)]
        rw [valV_neg (p := (k0, v)) e, e2]
        exact ih h2
theorem valV_hasT {Z : Addr → Prop} {ks : List (List Key × V)} {es : List (PyData × PyData)} (k : List Key) (h : RpT X.K H Z ks es) : (valV ks k).isSome = (dLookT es k).isSome := by
  rcases dLookT_rp k h with ⟨v, d, e1, e2, _⟩ | ⟨e1, e2⟩
  · rw [e1, e2]; rfl
  · rw [e1, e2]; rfl
theorem dLook_T {Z : Addr → Prop} {ks : List (List Key × V)} {es : List (PyData × PyData)} (k : Key) (h : RpT X.K H Z ks es) : dLook es k = none := by
  induction ks generalizing es with
  | nil => cases h; rfl
  | cons p ks ih =>
    cases h with
    | @cons k0 v _ c d es h0 h1 h2 =>
      unfold dLook
      rw [List.find?_cons_of_neg (by rw [tkD_keyD h0]; simp)]
      exact ih h2
theorem dLookT_K {Z : Addr → Prop} {ks : List (Key × V)} {es : List (PyData × PyData)} (k : List Key) (h : RpK X.K H Z ks es) : dLookT es k = none := by
  induction ks generalizing es with
  | nil => cases h; rfl
  | cons p ks ih =>
    cases h with
    | @cons k0 v _ c d es h0 h1 h2 =>
      have n : tkD c = none := by cases c <;> first | rfl | cases h0
      unfold dLookT
      rw [List.find?_cons_of_neg (by rw [n]; simp)]
      exact ih h2
/-- a key that is a tuple -/
theorem tkD_v {Z : Addr → Prop} {x : V} {d : PyData} {k : List Key} (h : RT X.K H Z x d) (e : tkD d = some k) : ∃ b, x = .ref b ∧ SqT X.K H b (k.map kV) := by
  cases d with
  | tuple ds =>
    obtain ⟨b, vs, rfl, h1, h2⟩ := h.tup
    have : ∀ {vs : List V} {ds : List PyData} {k : List Key}, RpA X.K H Z vs ds → keysD ds = some k → vs = k.map kV := by
      intro vs ds
      induction ds generalizing vs with
      | nil => intro k r e; cases e; cases r; rfl
      | cons d ds ih =>
        intro k r e
        unfold keysD at e
        split at e
        · rename_i k0 ks e1 e2
          cases e
          cases r with
          | cons r1 r2 => rw [List.map_cons, ih r2 e2, keyD_v (Z := Z) (.inl r1) e1]
        · cases e
    rw [this h2 (show keysD ds = some k from e)] at h1
    exact ⟨b, rfl, h1⟩
  | _ => cases e
theorem key_ofS (I : Inv X pins σ H s) {b : Addr} {ks : List Key} (h : SqT X.K H b (ks.map kV)) : (tupleKind (mixKind X.prog X.w)).is s.heap ks b := by
  obtain ⟨its, rv, ⟨o, ho, hc, n, hd⟩, _⟩ := I.tuple h
  exact ⟨o, its.toArray, n, ho, hc, hd, by simpa using items_are rv⟩
theorem dkT_k {Z : Addr → Prop} {a : Addr} {es : List (PyData × PyData)} (I : Inv X pins σ H s) (h : DkT X.K H Z a es) (hk : kindK es = true) : (a == sysModules) = false ∧ ∃ kvs vs, RpK X.K H Z kvs es ∧ KV kvs vs ∧ s.heap.DictOf (mixKind X.prog X.w) a vs := by
  rcases h with ⟨ks, h1, h2⟩ | ⟨ks, h1, h2⟩
  · obtain ⟨_, hd, vs, rel, dd⟩ := dk_rd I.hok h1
    exact ⟨hd, ks, vs, h2, rel, dd⟩
  · cases h2 with
    | nil =>
      obtain ⟨_, hd, xs, r, o, ents, ep, ho, hc, he, hl, _⟩ := (show ObjOk X.prog X.w H s.heap a (.dT []) from h1.ok I.hok)
      cases r
      have e0 : ents = #[] := by
        have : ents.toList = [] := hl
        simpa using this
      subst e0
      exact ⟨hd, [], [], .nil, .nil, o, #[], ep, ho, hc, he, fun e he2 => absurd he2 (by simp), .nil, List.nodup_nil⟩
    | @cons k v kvs c d es h0 _ _ =>
      have hk : (keyD c).isSome = true := hk
      rw [tkD_keyD h0] at hk
      cases hk
theorem dkT_t {Z : Addr → Prop} {a : Addr} {es : List (PyData × PyData)} (I : Inv X pins σ H s) (h : DkT X.K H Z a es) (hk : kindT es = true) : (a == sysModules) = false ∧ ∃ kvs xs, RpT X.K H Z kvs es ∧ KT H kvs xs ∧ s.heap.DictOfH (tupleKind (mixKind X.prog X.w)) a xs := by
  rcases h with ⟨ks, h1, h2⟩ | ⟨ks, h1, h2⟩
  · cases h2 with
    | nil =>
      obtain ⟨_, hd, vs, rel, o, ents, ep, ho, hc, he, _, hp, _⟩ := (show ObjOk X.prog X.w H s.heap a (.dK []) from h1.ok I.hok)
      cases rel
      have e0 : ents.toList = [] := by generalize ents.toList = l at hp; cases hp; rfl
      exact ⟨hd, [], [], .nil, .nil, o, ents, ep, ho, hc, he, e0, fun x hx => absurd hx List.not_mem_nil, List.nodup_nil⟩
    | @cons k v kvs c d es h0 _ _ =>
      have hk : (tkD c).isSome = true := hk
      have n : tkD c = none := by cases c <;> first | rfl | cases h0
      rw [n] at hk
      cases hk
  · obtain ⟨_, hd, xs, rel, dd⟩ := dt_rd I.hok h1
    exact ⟨hd, ks, xs, h2, rel, dd⟩
theorem o_in {k : Nat} (hr : L2H.RoomH k X.A) : OpR X (compareOp .In) (rD X.K inD) := by
  intro pins s σ H x y v u Q I rx ry ⟨Z, d, e, r, hz, hd, he, hf, ho⟩
  unfold inD at hf
  cases q : inB d e with
  | none => rw [q] at hf; cases hf
  | some b =>
    rw [q] at hf
    cases hf
    unfold inB at q
    split at q
    · split at q
      · rename_i h
        cases q
        obtain ⟨h1, h2, h3⟩ := inOk_of h
        obtain ⟨as, r1⟩ := Inv.rt I hd rx
        obtain ⟨bs, r2⟩ := Inv.rt I he ry
        exact PySem.SeqAt.in_list_data r2 r1 h2 h1 (by have := room_eq hr (show 60 ≤ 60 by decide); omega) (rout_bl (I := I) ho)
      · cases q
    · split at q
      · rename_i h
        cases q
        obtain ⟨h1, h2, h3⟩ := inOk_of h
        obtain ⟨as, r1⟩ := Inv.rt I hd rx
        obtain ⟨bs, r2⟩ := Inv.rt I he ry
        exact PySem.SeqAt.in_tuple_data r2 r1 h2 h1 (by have := room_eq hr (show 60 ≤ 60 by decide); omega) (rout_bl (I := I) ho)
      · cases q
    · split at q
      · rename_i kk hk
        split at q
        · rename_i kd
          cases q
          obtain ⟨a, rfl, h1⟩ := he.dic
          cases ry
          have e1 := keyD_v hd hk
          subst e1
          obtain ⟨hsm, kvs, vs, h2, rel, dd⟩ := dkT_k I h1 kd
          refine wpAny_in_of (kV_is rx) hsm dd.mapOf ?_
          rw [← (rel.val kk).isSome_eq, valV_has kk h2]
          exact ⟨.bl _, H, I.tok _, rfl, rout_here ho (.bl _)⟩
        · cases q
      · split at q
        · rename_i ks hk
          split at q
          · rename_i kd
            cases q
            obtain ⟨a, rfl, h1⟩ := he.dic
            cases ry
            obtain ⟨b, rfl, h3⟩ := tkD_v hd hk
            cases rx
            obtain ⟨hsm, kvs, xs, h2, rel, dd⟩ := dkT_t I h1 kd
            refine wpAny_in_heap (tupleKind_room_in1 (room_eq hr (show 1 ≤ 60 by decide))) (key_ofS I h3) hsm dd ?_
            have q := (rel.val ks).isSome_eq
            rw [Option.isSome_map] at q
            rw [← q, valV_hasT ks h2]
            exact ⟨.bl _, H, I.tok _, rfl, rout_here ho (.bl _)⟩
          · cases q
        · cases q
    · split at q
      · cases q
        exact op_in_str pins s σ H x y v u Q I rx ry ⟨_, _, hd.str, he.str, rout_here ho (.bl _)⟩
      · cases q
    · cases q
theorem o_ni {k : Nat} (hr : L2H.RoomH k X.A) : OpR X (compareOp .NotIn) (rD X.K niD) := by
  intro pins s σ H x y v u Q I rx ry ⟨Z, d, e, r, hz, hd, he, hf, ho⟩
  unfold niD at hf
  cases q : inB d e with
  | none => rw [q] at hf; cases hf
  | some b =>
    rw [q] at hf
    cases hf
    unfold inB at q
    split at q
    · split at q
      · rename_i h
        cases q
        obtain ⟨h1, h2, h3⟩ := inOk_of h
        obtain ⟨as, r1⟩ := Inv.rt I hd rx
        obtain ⟨bs, r2⟩ := Inv.rt I he ry
        exact PySem.SeqAt.notIn_list_data r2 r1 h2 h1 (by have := room_eq hr (show 60 ≤ 60 by decide); omega) (rout_bl (I := I) ho)
      · cases q
    · split at q
      · rename_i h
        cases q
        obtain ⟨h1, h2, h3⟩ := inOk_of h
        obtain ⟨as, r1⟩ := Inv.rt I hd rx
        obtain ⟨bs, r2⟩ := Inv.rt I he ry
        exact PySem.SeqAt.notIn_tuple_data r2 r1 h2 h1 (by have := room_eq hr (show 60 ≤ 60 by decide); omega) (rout_bl (I := I) ho)
      · cases q
    · split at q
      · rename_i kk hk
        split at q
        · rename_i kd
          cases q
          obtain ⟨a, rfl, h1⟩ := he.dic
          cases ry
          have e1 := keyD_v hd hk
          subst e1
          obtain ⟨hsm, kvs, vs, h2, rel, dd⟩ := dkT_k I h1 kd
          refine wpAny_notIn_of (kV_is rx) hsm dd.mapOf ?_
          rw [← (rel.val kk).isSome_eq, valV_has kk h2]
          exact ⟨.bl _, H, I.tok _, rfl, rout_here ho (.bl _)⟩
        · cases q
      · split at q
        · rename_i ks hk
          split at q
          · rename_i kd
            cases q
            obtain ⟨a, rfl, h1⟩ := he.dic
            cases ry
            obtain ⟨b, rfl, h3⟩ := tkD_v hd hk
            cases rx
            obtain ⟨hsm, kvs, xs, h2, rel, dd⟩ := dkT_t I h1 kd
            refine wpAny_notIn_heap (tupleKind_room_in1 (room_eq hr (show 1 ≤ 60 by decide))) (key_ofS I h3) hsm dd ?_
            have q := (rel.val ks).isSome_eq
            rw [Option.isSome_map] at q
            rw [← q, valV_hasT ks h2]
            exact ⟨.bl _, H, I.tok _, rfl, rout_here ho (.bl _)⟩
          · cases q
        · cases q
    · split at q
      · cases q
        exact op_notin_str pins s σ H x y v u Q I rx ry ⟨_, _, hd.str, he.str, rout_here ho (.bl _)⟩
      · cases q
    · cases q
/-! ## subscripts, slices -/
def atD {α : Type} (xs : List α) (i : Int) : Option α := (ixN xs.length i).bind fun j => xs[j]?
def ixD : PyData → PyData → Option PyData
  | .list xs, .int i => atD xs i
  | .tuple xs, .int i => atD xs i
  | .str z, .int i => if z.length ≤ 1000000 then (atD z.cps.toList i).map fun c => .str ⟨#[c]⟩ else none
  | .dict es, k => match keyD k with
    | some k => dLook es k
    | none => match tkD k with
      | some ks => dLookT es ks
      | none => none
  | _, _ => none
theorem atI_rp {Z : Addr → Prop} {vs : List V} {ds : List PyData} {i : Int} {d : PyData} (h : RpA X.K H Z vs ds) (e : atD ds i = some d) : ∃ v, atI vs i = some v ∧ Rp X.K H Z v d := by
  unfold atD at e
  rw [← h.len] at e
  unfold atI
  cases q : ixN vs.length i with
  | none => rw [q] at e; cases e
  | some j =>
    rw [q] at e
    exact h.get (i := j) e
theorem o_ix {k : Nat} (hr : L2H.RoomH k X.A) : IxR X (rD X.K ixD) := by
  intro val sli pins s σ H x y v u Q I rx ry ⟨Z, d, e, r, hz, hd, he, hf, ho⟩ hs
  unfold ixD at hf
  split at hf
  · obtain ⟨a, vs, rfl, h1, h2⟩ := hd.lst
    obtain ⟨w, hw, rw'⟩ := atI_rp h2 hf
    exact ix_list val sli pins s σ H _ y v u Q I rx ry ⟨a, vs, _, w, rfl, he.int, h1.sq, hw, rout_here ho rw'⟩ hs
  · obtain ⟨a, vs, rfl, h1, h2⟩ := hd.tup
    obtain ⟨w, hw, rw'⟩ := atI_rp h2 hf
    exact ix_tup val sli pins s σ H _ y v u Q I rx ry ⟨a, vs, _, w, rfl, he.int, h1, hw, rout_here ho rw'⟩ hs
  · split at hf
    · rename_i z i hl
      cases q : atD z.cps.toList i with
      | none => rw [q] at hf; cases hf
      | some c =>
        rw [q] at hf
        cases hf
        exact ix_str val sli pins s σ H x y v u Q I rx ry ⟨_, _, c, hd.str, he.int, Nat.le_trans hl line_lim, q, rout_here ho (.str _)⟩ hs
    · cases hf
  · split at hf
    · rename_i kk hk
      obtain ⟨a, rfl, h1⟩ := hd.dic
      cases rx
      have e1 := keyD_v he hk
      subst e1
      rcases h1 with ⟨ks, h1, h2⟩ | ⟨ks, h1, h2⟩
      · rcases dLook_rp kk h2 with ⟨w, d', e1, e2, rw'⟩ | ⟨e1, e2⟩
        · rw [e2] at hf
          cases hf
          have g : DGet H a (kV kk) (some w) := by rw [← e1]; exact .inl ⟨_, _, h1, rfl, rfl⟩
          exact tail_any (dict_typeIs I g) PySem.F.slot_dict_getitem.lookup (d_getItem (room_eq hr (show 1 ≤ 60 by decide)) I g ry fun w' s1 I1 r1 => ⟨w, H, I1, r1, rout_here ho rw'⟩) hs
        · rw [e2] at hf
          cases hf
      · rw [dLook_T kk h2] at hf
        cases hf
    · split at hf
      · rename_i kk hk
        obtain ⟨a, rfl, h1⟩ := hd.dic
        cases rx
        obtain ⟨b, rfl, h3⟩ := tkD_v he hk
        cases ry
        rcases h1 with ⟨ks, h1, h2⟩ | ⟨ks, h1, h2⟩
        · rw [dLookT_K kk h2] at hf
          cases hf
        · rcases dLookT_rp kk h2 with ⟨w, d', e1, e2, rw'⟩ | ⟨e1, e2⟩
          · rw [e2] at hf
            cases hf
            obtain ⟨_, _, xs, rel, dd⟩ := dt_rd I.hok h1
            obtain ⟨w', hw, rw2⟩ := RelO.some_of (v := w) (o := (atKey xs kk).map (·.2)) (by rw [← e1]; exact rel.val kk)
            obtain ⟨p, hp, hp2⟩ := Option.map_eq_some_iff.mp hw
            refine tail_any (dd.typeIs) PySem.F.slot_dict_getitem.lookup (wpAny_getItem_heap (tupleKind_room_in1 (room_eq hr (show 1 ≤ 60 by decide))) (key_ofS I h3) dd hp ?_) hs
            rw [hp2]
            exact ⟨w, H, I.tok _, rw2, rout_here ho rw'⟩
          · rw [e2] at hf
            cases hf
      · cases hf
  · cases hf
theorem de_ix {k : Nat} (hr : L2H.RoomH k X.A) {a b : Expr} {ca cb : En → Sto → Rs Wv} {pos : Pos} (ha : DE X a ca) (hb : DE X b cb) (hs : PlainIx b) : DE X (.Subscript a b pos) (eOp2 ixD ca cb) :=
  ⟨fun W tk => PE.imp (pe_ix (o_ix hr) (ha.pe W tk) (hb.pe W tk) hs) fun σ H Q => te_two ixD⟩
/-- a part of a slice -/
structure DO (X : Cx) (e : Option Expr) (c : En → Sto → Rs (Option Int)) : Prop where
  po : ∀ W, Takes X W → PO X e fun σ H Q => ∃ m env st, Sim X.K H m st ∧ EnvR X.K H m st.length env σ ∧ (c env st).post (fun i st' => ∀ H' m', Fol m st.length H m' st'.length H' → Sim X.K H' m' st' → Q i H') (okX X W m st.length H σ)
def pNo : En → Sto → Rs (Option Int) := fun _ st => .ok none st
def pSome (c : En → Sto → Rs Wv) : En → Sto → Rs (Option Int) := fun env st => (c env st).bind fun w st1 => match w with
  | .d (.int i) => .ok (some i) st1
  | _ => .no
theorem PO.imp {e : Option Expr} {t t' : TO} (h : PO X e t) (q : ∀ σ H Q, t' σ H Q → t σ H Q) : PO X e t' := ⟨fun pins s σ H Q I x => h.run pins s σ H Q I (q σ H Q x)⟩
theorem do_no : DO X none pNo := ⟨fun W tk => PO.imp po_none fun σ H Q ⟨m, env, st, S, R, hp⟩ => hp H m .refl S⟩
theorem do_some {e : Expr} {c : En → Sto → Rs Wv} (h : DE X e c) : DO X (some e) (pSome c) := by
  refine ⟨fun W tk => PO.imp (po_some (h.pe W tk)) fun σ H Q ⟨m, env, st, S, R, hp⟩ => ?_⟩
  unfold pSome at hp
  rw [Rs.post_bind] at hp
  refine ⟨m, env, st, S, R, Rs.post_mono hp (fun w st1 q v H1 m1 f1 S1 r1 => ?_) fun _ _ q => q⟩
  split at q
  · cases r1
    exact ⟨_, rfl, q H1 m1 f1 S1⟩
  · exact q.elim
def cutD {α : Type} (xs : List α) (lo hi : Option Int) : List α := (xs.drop (HT.sIx xs.length 0 lo)).take (HT.sIx xs.length xs.length hi - HT.sIx xs.length 0 lo)
def slD (lo hi : Option Int) : PyData → Option PyData
  | .list xs => some (.list (cutD xs lo hi))
  | .tuple xs => some (.tuple (cutD xs lo hi))
  | .str z => if z.length ≤ 1000000 then some (.str (cutS z lo hi)) else none
  | _ => none
theorem cut_whole {α : Type} {xs : List α} {lo hi : Option Int} (h : HT.sIx xs.length 0 lo = 0 ∧ HT.sIx xs.length xs.length hi = xs.length) : cutD xs lo hi = xs := by
  unfold cutD
  rw [h.1, h.2]
  simp
theorem RpA.cut {K : Frg} {H : Hp} {Z : Addr → Prop} {vs : List V} {ds : List PyData} (h : RpA K H Z vs ds) (lo hi : Option Int) : RpA K H Z (cutV vs lo hi) (cutD ds lo hi) := by
  unfold cutV cutD
  rw [h.len]
  exact (h.drop _).take _
/-- a slice of a list, whoever holds it -/
def rSlice (K : Frg) : V → Option Int → Option Int → Hp → VK → Prop := fun x lo hi H Q => ∃ Z d r, (∀ a, H a = none → Z a) ∧ RT K H Z x d ∧ slD lo hi d = some r ∧ rOut K H Z r Q
theorem o_slice : SlR X (rSlice X.K) := by
  intro pins s σ H x v vl vu lo hi sl Q I rx hs pl pu ⟨Z, d, r, hz, hd, hf, ho⟩
  unfold slD at hf
  split at hf
  · cases hf
    obtain ⟨a, vs, rfl, h1, h2⟩ := hd.lst
    exact sl_list pins s σ H _ v vl vu lo hi sl Q I rx hs pl pu ⟨a, vs, rfl, h1.sq, rout_lst hz ho (h2.cut lo hi)⟩
  · cases hf
    obtain ⟨a, vs, rfl, h1, h2⟩ := hd.tupT
    refine sl_tupA pins s σ H _ v vl vu lo hi sl Q I rx hs pl pu ⟨a, vs, rfl, h1.sq, fun e => ?_, fun _ => rout_tup ho (h2.cut lo hi)⟩
    rw [cut_whole (by rw [← h2.len]; exact e)] at ho
    exact rout_here ho (.tup h1 h2)
  · split at hf
    · rename_i h
      cases hf
      exact sl_str pins s σ H x v vl vu lo hi sl Q I rx hs pl pu ⟨_, hd.str, Nat.le_trans h line_lim, rout_here ho (.str _)⟩
    · cases hf
  · cases hf
def eSlice (c : En → Sto → Rs Wv) (l h : En → Sto → Rs (Option Int)) : En → Sto → Rs Wv := fun env st => (c env st).bind fun w st1 => (l env st1).bind fun lo st2 => (h env st2).bind fun hi st3 => look1 w st3 fun d => ret1 (slD lo hi d) st3
theorem de_slice {a : Expr} {lo hi : Option Expr} {c : En → Sto → Rs Wv} {l h : En → Sto → Rs (Option Int)} {p2 pos : Pos} (ha : DE X a c) (hl : DO X lo l) (hh : DO X hi h) : DE X (.Subscript a (.Slice lo hi none p2) pos) (eSlice c l h) := by
  refine ⟨fun W tk => PE.imp (pe_slice o_slice (ha.pe W tk) (hl.po W tk) (hh.po W tk)) fun σ H Q ⟨m, env, st, S, R, hp⟩ => ?_⟩
  unfold eSlice at hp
  rw [Rs.post_bind] at hp
  refine ⟨m, env, st, S, R, Rs.post_mono hp (fun w st1 q v H1 m1 f1 S1 r1 => ?_) fun _ _ q => q⟩
  rw [Rs.post_bind] at q
  refine ⟨m1, env, st1, S1, R.mv f1, Rs.post_mono q (fun i st2 q H2 m2 f2 S2 => ?_) fun _ _ q => okX.tr f1 q⟩
  rw [Rs.post_bind] at q
  refine ⟨m2, env, st2, S2, (R.mv f1).mv f2, Rs.post_mono q (fun j st3 q H3 m3 f3 S3 => ?_) fun _ _ q => okX.tr (f1.trans f2) q⟩
  obtain ⟨d, e1, q⟩ := look1_post q
  obtain ⟨r, e2, q⟩ := ret1_post q
  exact ⟨_, d, r, fun a => S3.fresh, look_rt S3 ((r1.mv f2).mv f3) e1, e2, okE.out ((f1.trans f2).trans f3) S3 q⟩
/-! ## built-ins by their names -/
theorem de_callB {a : Expr} {as : List Expr} {cs : En → Sto → Rs (List Wv)} {x : Str} {id : String} {f : List PyData → Option PyData} {M : Md} {B : Tb} {k : Nat} {p pos : Pos} (c : Cxt M X B k) (hc : CallR X (.builtin id) (rN X.K f)) (j : Nat) (hg : B.gs[j]? = some x) (hm : M.mg x = none)
    (hv : bootBuiltins x = some (.builtin id)) (ha : DA X (a :: as) cs) (hn : x ≠ "__name__" := by decide) (hdb : (x == ("__debug__" : Str)) = false := by decide)
    (he : starEach (a :: as) X.env = (false, eval a X.env) :: starEach as X.env := by rfl) (hpl : (backTo pos (starEach as X.env)).any (·.1) = false := by rfl) : DE X (.Call (.Name x p) (a :: as) [] pos) (eOpN f cs) :=
  ⟨fun W tk => PE.imp (pe_callB hc (c.gl j x hg) (by rw [c.mg]; exact hm) hv (ha.pa W tk) hn hdb he hpl) fun σ H Q => te_all f⟩
theorem de_callT {a : Expr} {as : List Expr} {cs : En → Sto → Rs (List Wv)} {x : Str} {T : String} {f : List PyData → Option PyData} {M : Md} {B : Tb} {k : Nat} {p pos : Pos} (c : Cxt M X B k) (hc : CallR X (.type T) (rN X.K f)) (j : Nat) (hg : B.gs[j]? = some x) (hm : M.mg x = none)
    (hv : bootBuiltins x = some (.type T)) (ha : DA X (a :: as) cs) (hn : x ≠ "__name__" := by decide) (hdb : (x == ("__debug__" : Str)) = false := by decide)
    (he : starEach (a :: as) X.env = (false, eval a X.env) :: starEach as X.env := by rfl) (hpl : (backTo pos (starEach as X.env)).any (·.1) = false := by rfl) : DE X (.Call (.Name x p) (a :: as) [] pos) (eOpN f cs) :=
  ⟨fun W tk => PE.imp (pe_callTy hc (c.gl j x hg) (by rw [c.mg]; exact hm) hv (ha.pa W tk) hn hdb he hpl) fun σ H Q => te_all f⟩
theorem rts1 {K : Frg} {H : Hp} {Z : Addr → Prop} {vs : List V} {d : PyData} (h : RTs K H Z vs [d]) : ∃ v, vs = [v] ∧ RT K H Z v d := by
  cases h with | cons h1 h2 => cases h2; exact ⟨_, rfl, h1⟩
theorem rts2 {K : Frg} {H : Hp} {Z : Addr → Prop} {vs : List V} {d e : PyData} (h : RTs K H Z vs [d, e]) : ∃ v w, vs = [v, w] ∧ RT K H Z v d ∧ RT K H Z w e := by
  cases h with | cons h1 h2 => cases h2 with | cons h3 h4 => cases h4; exact ⟨_, _, rfl, h1, h3⟩
theorem RpT.len {K : Frg} {H : Hp} {Z : Addr → Prop} : ∀ {ks : List (List Key × V)} {es : List (PyData × PyData)}, RpT K H Z ks es → ks.length = es.length
  | [], [], _ => rfl
  | _ :: _, _ :: _, .cons _ _ h => by simp [RpT.len h]
def lenD : PyData → Option PyData
  | .list xs => some (.int xs.length)
  | .tuple xs => some (.int xs.length)
  | .dict es => some (.int es.length)
  | .str z => if z.length ≤ 1000000 then some (.int z.length) else none
  | _ => none
def lenF : List PyData → Option PyData
  | [d] => lenD d
  | _ => none
theorem RpK.len {K : Frg} {H : Hp} {Z : Addr → Prop} : ∀ {ks : List (Key × V)} {es : List (PyData × PyData)}, RpK K H Z ks es → ks.length = es.length
  | [], [], _ => rfl
  | _ :: _, _ :: _, .cons _ _ h => by simp [RpK.len h]
theorem c_len : CallR X (.builtin "len") (rN X.K lenF) := by
  intro pins s σ H xs us Q I r ⟨Z, ds, e, hz, hd, hf, ho⟩
  unfold lenF at hf
  split at hf
  · obtain ⟨v, rfl, h⟩ := rts1 hd
    unfold lenD at hf
    split at hf
    · cases hf
      obtain ⟨a, vs, rfl, h1, h2⟩ := h.lst
      exact call_len_seq pins s σ H _ us Q I r ⟨a, vs, rfl, .inl h1.sq, by rw [h2.len]; exact rout_here ho (.int _)⟩
    · cases hf
      obtain ⟨a, vs, rfl, h1, h2⟩ := h.tup
      exact call_len_seq pins s σ H _ us Q I r ⟨a, vs, rfl, .inr h1, by rw [h2.len]; exact rout_here ho (.int _)⟩
    · cases hf
      obtain ⟨a, rfl, h1⟩ := h.dic
      obtain ⟨u, rfl, r1⟩ := Vals.one r
      cases r1
      rcases h1 with ⟨ks, h1, h2⟩ | ⟨ks, h1, h2⟩
      · exact d_len I h1 fun t s1 I1 => ⟨.int ks.length, H, I1, ⟨t, rfl⟩, by rw [h2.len]; exact rout_here ho (.int _)⟩
      · obtain ⟨z, hsm, xs, rel, dd⟩ := dt_rd I.hok h1
        refine call_len_dictH hsm dd (by rw [← Paired.length rel]; rw [sizeLine_eq] at z; omega) ?_
        exact ⟨.int xs.length, H, I.tok _, ⟨_, rfl⟩, by rw [← Paired.length rel, h2.len]; exact rout_here ho (.int _)⟩
    · split at hf
      · rename_i hl
        cases hf
        have e1 := h.str
        subst e1
        exact call_len_str pins s σ H _ us Q I r ⟨_, rfl, Nat.le_trans hl line_lim, rout_here ho (.int _)⟩
      · cases hf
    · cases hf
  · cases hf
end
end
section
variable [Wtp] [Tbl]
section
variable {X : Cx} {pins : List (Addr × Obj)} {σ : L2.St} {H : Hp} {s : Shared}
/-- what a sequence holds -/
def seqOf : PyData → Option (List PyData)
  | .list xs => some xs
  | .tuple xs => some xs
  | _ => none
def intsOf : List PyData → Option (List Int)
  | [] => some []
  | .int i :: r => (intsOf r).map (i :: ·)
  | _ :: _ => none
def boolsOf : List PyData → Option (List Bool)
  | [] => some []
  | .bool b :: r => (boolsOf r).map (b :: ·)
  | _ :: _ => none
theorem intsOf_map (ns : List Int) : intsOf (ns.map .int) = some ns := by
  induction ns with
  | nil => rfl
  | cons n r ih => rw [List.map_cons, intsOf, ih]; rfl
theorem intsOf_eq : ∀ {xs : List PyData} {ns : List Int}, intsOf xs = some ns → xs = ns.map .int
  | [], ns, h => by cases h; rfl
  | .int i :: r, ns, h => by
    rw [intsOf] at h
    cases q : intsOf r with
    | none => rw [q] at h; cases h
    | some l => rw [q] at h; cases h; rw [List.map_cons, ← intsOf_eq q]
  | .none :: r, ns, h => by cases h
  | .bool _ :: r, ns, h => by cases h
  | .str _ :: r, ns, h => by cases h
  | .list _ :: r, ns, h => by cases h
  | .tuple _ :: r, ns, h => by cases h
  | .dict _ :: r, ns, h => by cases h
theorem boolsOf_map (ns : List Bool) : boolsOf (ns.map .bool) = some ns := by
  induction ns with
  | nil => rfl
  | cons n r ih => rw [List.map_cons, boolsOf, ih]; rfl
theorem boolsOf_eq : ∀ {xs : List PyData} {ns : List Bool}, boolsOf xs = some ns → xs = ns.map .bool
  | [], ns, h => by cases h; rfl
  | .bool i :: r, ns, h => by
    rw [boolsOf] at h
    cases q : boolsOf r with
    | none => rw [q] at h; cases h
    | some l => rw [q] at h; cases h; rw [List.map_cons, ← boolsOf_eq q]
  | .none :: r, ns, h => by cases h
  | .int _ :: r, ns, h => by cases h
  | .str _ :: r, ns, h => by cases h
  | .list _ :: r, ns, h => by cases h
  | .tuple _ :: r, ns, h => by cases h
  | .dict _ :: r, ns, h => by cases h
theorem RpA.ints {K : Frg} {Z : Addr → Prop} : ∀ {vs : List V} {ns : List Int}, RpA K H Z vs (ns.map .int) → vs = ns.map V.int
  | [], [], _ => rfl
  | _ :: _, _ :: _, .cons h1 h2 => by cases h1; rw [List.map_cons, ← RpA.ints h2]
theorem RpA.bools {K : Frg} {Z : Addr → Prop} : ∀ {vs : List V} {ns : List Bool}, RpA K H Z vs (ns.map .bool) → vs = ns.map V.bl
  | [], [], _ => rfl
  | _ :: _, _ :: _, .cons h1 h2 => by cases h1; rw [List.map_cons, ← RpA.bools h2]
/-! ### abs, sum, any, all -/
def sumF : List PyData → Option PyData
  | [d] => match seqOf d with
    | some xs => (intsOf xs).map fun ns => .int ns.sum
    | none => none
  | _ => none
theorem preSum_ints {xs : Array (Int × Tok)} {ns : List Int} {us : List Value} (e : us.toArray = intItems xs) (hi : IntsAre us ns) : preSum (numAt xs) xs.size = ns.sum := by
  have hn : numsOf (intItems xs).toList = ns := by rw [← e]; exact hi.numsOf
  rw [nums_intItems] at hn
  rw [preSum_eq, List.take_of_length_le (by simp), hn]
theorem c_sum (hc : X.calm = true) : CallR X (.builtin "sum") (rN X.K sumF) := by
  intro pins s σ H xs us Q I r ⟨Z, ds, e, hz, hd, hf, ho⟩
  unfold sumF at hf
  split at hf
  · obtain ⟨v, rfl, h⟩ := rts1 hd
    split at hf
    · rename_i xs q
      cases q2 : intsOf xs with
      | none => rw [q2] at hf; cases hf
      | some ns =>
        rw [q2] at hf
        cases hf
        have e1 := intsOf_eq q2
        subst e1
        unfold seqOf at q
        split at q
        · cases q
          obtain ⟨a, vs, rfl, h1, h2⟩ := h.lst
          rw [h2.ints] at h1
          exact cr_sum hc pins s σ H _ us Q I r ⟨a, ns, rfl, h1.sq, rout_here ho (.int _)⟩
        · cases q
          obtain ⟨a, vs, rfl, h1, h2⟩ := h.tup
          rw [h2.ints] at h1
          obtain ⟨u, rfl, r1⟩ := Vals.one r
          cases r1
          obtain ⟨its, rv, ht, _⟩ := I.tuple h1
          have hi := rv.ints
          obtain ⟨ys, e2⟩ := hi.allInts.items
          have e3 := preSum_ints e2 hi
          rw [e2] at ht
          refine PySem.W.ktm_sumG (I.ok.hd hc) ht fun h' tk t' hk => ?_
          rw [e3]
          exact ⟨.int ns.sum, H, I.kept (t' := tk) hk, ⟨t', rfl⟩, rout_here ho (.int _)⟩
        · cases q
    · cases hf
  · cases hf
def allF : List PyData → Option PyData
  | [.list xs] => (boolsOf xs).map fun bs => .bool (bs.all id)
  | _ => none
theorem c_all (hc : X.calm = true) : CallR X (.builtin "all") (rN X.K allF) := by
  intro pins s σ H xs us Q I r ⟨Z, ds, e, hz, hd, hf, ho⟩
  unfold allF at hf
  split at hf
  · rename_i xs
    obtain ⟨v, rfl, h⟩ := rts1 hd
    cases q2 : boolsOf xs with
    | none => rw [q2] at hf; cases hf
    | some ns =>
      rw [q2] at hf
      cases hf
      have e1 := boolsOf_eq q2
      subst e1
      obtain ⟨a, vs, rfl, h1, h2⟩ := h.lst
      rw [h2.bools] at h1
      exact cr_all hc pins s σ H _ us Q I r ⟨a, ns, rfl, h1.sq, rout_here ho (.bl _)⟩
  · cases hf
/-! ### tuple, list, int -/
def tupF : List PyData → Option PyData
  | [d] => (seqOf d).map .tuple
  | _ => none
def intF : List PyData → Option PyData
  | [.int i] => some (.int i)
  | [.bool b] => some (.int (if b then 1 else 0))
  | _ => none
theorem c_tup : CallR X (.type "tuple") (rN X.K tupF) := by
  intro pins s σ H xs us Q I r ⟨Z, ds, e, hz, hd, hf, ho⟩
  unfold tupF at hf
  split at hf
  · obtain ⟨v, rfl, h⟩ := rts1 hd
    unfold seqOf at hf
    split at hf
    · cases hf
      obtain ⟨a, vs, rfl, h1, h2⟩ := h.lst
      exact call_tuple_of pins s σ H _ us Q I r ⟨a, vs, rfl, .inl ⟨h1.sq, rout_tup ho h2⟩⟩
    · cases hf
      obtain ⟨a, vs, rfl, h1, h2⟩ := h.tupT
      exact call_tuple_of pins s σ H _ us Q I r ⟨a, vs, rfl, .inr ⟨h1.sq, rout_here ho (.tup h1 h2)⟩⟩
    · cases hf
  · cases hf
theorem c_int : CallR X (.type "int") (rN X.K intF) := by
  intro pins s σ H xs us Q I r ⟨Z, ds, e, hz, hd, hf, ho⟩
  unfold intF at hf
  split at hf
  · cases hf
    obtain ⟨v, rfl, h⟩ := rts1 hd
    rw [h.int] at r
    exact call_int1 pins s σ H _ us Q I r (.inl ⟨_, rfl, rout_here ho (.int _)⟩)
  · cases hf
    obtain ⟨v, rfl, h⟩ := rts1 hd
    rw [h.bl] at r
    exact call_int1 pins s σ H _ us Q I r (.inr ⟨_, rfl, rout_here ho (.int _)⟩)
  · cases hf
/-! ### isinstance of a built-in class -/
def isaD (T : String) (d : PyData) : Option PyData := match T with
  | "int" => some (.bool d.isInt)
  | "bool" => some (.bool d.isBool)
  | "str" => some (.bool d.isStr)
  | "tuple" => some (.bool d.isTuple)
  | "list" => some (.bool d.isList)
  | "dict" => some (.bool d.isDict)
  | _ => none
def rIsa (K : Frg) (T : String) : List V → Hp → VK → Prop := fun vs H Q => ∃ Z v d r, vs = [v, .ty T] ∧ RT K H Z v d ∧ isaD T d = some r ∧ rOut K H Z r Q
theorem c_isa {T : String} : CallR X (.builtin "isinstance") (rIsa X.K T) := by
  intro pins s σ H xs us Q I r h
  obtain ⟨Z, v, d, e, rfl, hd, hf, ho⟩ := h
  obtain ⟨u, t, rfl, r1, r2⟩ := Vals.two r
  cases r2
  obtain ⟨as, q⟩ := Inv.rt I hd r1
  have fin : ∀ (b : Bool), e = .bool b → ∀ tk, EP X pins σ Q (.bool b) { s with toks := tk } := fun b eb tk => ⟨.bl b, H, I.tok tk, rfl, rout_here ho (by rw [eb]; exact .bl b)⟩
  unfold isaD at hf
  split at hf
  · cases hf; exact PySem.W.isinstance_int_data q fun tk _ => fin _ rfl tk
  · cases hf; exact PySem.W.isinstance_bool_data q fun tk _ => fin _ rfl tk
  · cases hf; exact PySem.W.isinstance_str_data q fun tk _ => fin _ rfl tk
  · cases hf; exact PySem.W.isinstance_tuple_data q fun tk _ => fin _ rfl tk
  · cases hf; exact PySem.W.isinstance_list_data q fun tk _ => fin _ rfl tk
  · cases hf; exact PySem.W.isinstance_dict_data q fun tk _ => fin _ rfl tk
  · cases hf
theorem de_isa {M : Md} {B : Tb} {k : Nat} {a : Expr} {ca : En → Sto → Rs Wv} {x : Str} {T : String} {p p2 pos : Pos} (c : Cxt M X B k) (j j2 : Nat) (hg : B.gs[j]? = some ("isinstance" : Str)) (hm : M.mg "isinstance" = none) (hg2 : B.gs[j2]? = some x) (hm2 : M.mg x = none)
    (hv : bootBuiltins x = some (.type T)) (ha : DE X a ca) (hn : x ≠ "__name__" := by decide) (hdb : (x == ("__debug__" : Str)) = false := by decide)
    (he : starEach [a, .Name x p2] X.env = (false, eval a X.env) :: starEach [.Name x p2] X.env := by rfl) : DE X (.Call (.Name "isinstance" p) [a, .Name x p2] [] pos) (eOp1 (isaD T) ca) := by
  refine ⟨fun W tk => PE.imp (pe_callB (c_isa (T := T)) (c.gl j _ hg) (by rw [c.mg]; exact hm) (by decide +kernel) (pa_cons (ha.pe W tk) (pa_cons (pe_bltn (v := .ty T) (c.gl j2 _ hg2) (by rw [c.mg]; exact hm2) hv rfl hn hdb) pa_nil) he) (by decide) (by decide) he) fun σ H Q h => ?_⟩
  obtain ⟨m, env, st, S, R, hp⟩ := h
  unfold eOp1 at hp
  rw [Rs.post_bind] at hp
  refine ⟨m, env, st, S, R, Rs.post_mono hp (fun w st1 q v H1 m1 f1 S1 r1 => ?_) fun _ _ q => q⟩
  obtain ⟨d, e1, q⟩ := look1_post q
  obtain ⟨r, e3, q⟩ := ret1_post q
  exact ⟨_, v, d, r, rfl, look_rt S1 r1 e1, e3, okE.out f1 S1 q⟩
/-! ### repr -/
end
end
section
variable [Wtp] [Tbl]
/-! ## statements -/
inductive Rt where
  | w (x : Wv)
  | f (x : Wv)
  | ft (xs : List Wv)
inductive SR where
  | nx (env : En) (st : Sto)
  | rt (p : Rt) (st : Sto)
  | ex (e : Xc) (st : Sto)
  | no
namespace SR
def post (x : SR) (N : En → Sto → Prop) (R : Rt → Sto → Prop) (W : Xc → Sto → Prop) : Prop := match x with
  | .nx env st => N env st
  | .rt p st => R p st
  | .ex e st => W e st
  | .no => False
@[simp] theorem post_nx (env : En) (st : Sto) (N : En → Sto → Prop) (R : Rt → Sto → Prop) (W : Xc → Sto → Prop) : (SR.nx env st).post N R W = N env st := rfl
@[simp] theorem post_rt (p : Rt) (st : Sto) (N : En → Sto → Prop) (R : Rt → Sto → Prop) (W : Xc → Sto → Prop) : (SR.rt p st).post N R W = R p st := rfl
@[simp] theorem post_ex (p : Xc) (st : Sto) (N : En → Sto → Prop) (R : Rt → Sto → Prop) (W : Xc → Sto → Prop) : (SR.ex p st).post N R W = W p st := rfl
@[simp] theorem post_no (N : En → Sto → Prop) (R : Rt → Sto → Prop) (W : Xc → Sto → Prop) : SR.no.post N R W = False := rfl
theorem post_mono {x : SR} {N N' : En → Sto → Prop} {R R' : Rt → Sto → Prop} {W W' : Xc → Sto → Prop} (h : x.post N R W) (h1 : ∀ a st, N a st → N' a st) (h2 : ∀ a st, R a st → R' a st) (h3 : ∀ a st, W a st → W' a st) : x.post N' R' W' := by
  cases x with
  | nx a st => exact h1 a st h
  | rt a st => exact h2 a st h
  | ex a st => exact h3 a st h
  | no => exact h
/-- what follows -/
def seq (x : SR) (f : En → Sto → SR) : SR := match x with
  | .nx env st => f env st
  | .rt p st => .rt p st
  | .ex e st => .ex e st
  | .no => .no
@[simp] theorem seq_nx (env : En) (st : Sto) (f : En → Sto → SR) : (SR.nx env st).seq f = f env st := rfl
@[simp] theorem seq_rt (p : Rt) (st : Sto) (f : En → Sto → SR) : (SR.rt p st).seq f = .rt p st := rfl
@[simp] theorem seq_ex (p : Xc) (st : Sto) (f : En → Sto → SR) : (SR.ex p st).seq f = .ex p st := rfl
@[simp] theorem seq_no (f : En → Sto → SR) : SR.no.seq f = .no := rfl
theorem post_seq (x : SR) (f : En → Sto → SR) (N : En → Sto → Prop) (R : Rt → Sto → Prop) (W : Xc → Sto → Prop) : (x.seq f).post N R W = x.post (fun env st => (f env st).post N R W) R W := by cases x <;> rfl
end SR
/-- a value, then a statement's end -/
def Rs.sb {α : Type} (x : Rs α) (f : α → Sto → SR) : SR := match x with
  | .ok a st => f a st
  | .ex e st => .ex e st
  | .no => .no
@[simp] theorem Rs.sb_ok {α : Type} (a : α) (st : Sto) (f : α → Sto → SR) : (Rs.ok a st).sb f = f a st := rfl
@[simp] theorem Rs.sb_ex {α : Type} (e : Xc) (st : Sto) (f : α → Sto → SR) : (Rs.ex e st : Rs α).sb f = .ex e st := rfl
@[simp] theorem Rs.sb_no {α : Type} (f : α → Sto → SR) : (Rs.no : Rs α).sb f = .no := rfl
theorem Rs.post_sb {α : Type} (x : Rs α) (f : α → Sto → SR) (N : En → Sto → Prop) (R : Rt → Sto → Prop) (W : Xc → Sto → Prop) : (x.sb f).post N R W = x.post (fun a st => (f a st).post N R W) W := by cases x <;> rfl
def RtR (K : Frg) (H : Hp) (m : Mp) (n : Nat) (v : V) : Rt → Prop
  | .w x => RW K H m n v x
  | .f x => RW K H m n v x
  | .ft xs => ∃ a vs, v = .ref a ∧ H a = some (.tup vs) ∧ RWs K H m n vs xs
def okN (X : Cx) (m : Mp) (n : Nat) (H : Hp) (D : Ends) : En → Sto → Prop := fun env st' => ∀ σ' H' m', Fol m n H m' st'.length H' → Sim X.K H' m' st' → EnvR X.K H' m' st'.length env σ' → D.nx σ' H'
def okR (X : Cx) (m : Mp) (n : Nat) (H : Hp) (D : Ends) : Rt → Sto → Prop := fun p st' => ∀ v H' m', Fol m n H m' st'.length H' → Sim X.K H' m' st' → RtR X.K H' m' st'.length v p → D.rt v H'
def okXs (X : Cx) (W : WX) (m : Mp) (n : Nat) (H : Hp) : Xc → Sto → Prop := fun e st' => ∀ c d σ' H' m', Fol m n H m' st'.length H' → Sim X.K H' m' st' → ExR X.K X.mg H' m' st'.length e c d → W c d σ' H'
def tS (X : Cx) (W : WX) (c : En → Sto → SR) : TS := fun D σ H => ∃ m env st, Sim X.K H m st ∧ EnvR X.K H m st.length env σ ∧ (c env st).post (okN X m st.length H D) (okR X m st.length H D) (okXs X W m st.length H)
structure DS (X : Cx) (e : Stmt) (c : En → Sto → SR) : Prop where
  ps : ∀ W, Takes X W → PS X e (tS X W c)
structure DB (X : Cx) (es : List Stmt) (c : En → Sto → SR) : Prop where
  pss : ∀ W, Takes X W → PSs X es (tS X W c)
def sNil : En → Sto → SR := fun env st => .nx env st
def sSeq (a b : En → Sto → SR) : En → Sto → SR := fun env st => (a env st).seq b
def sSet (i : Nat) (c : En → Sto → Rs Wv) : En → Sto → SR := fun env st => (c env st).sb fun w st1 => .nx (env.set i (some w)) st1
def sRet (c : En → Sto → Rs Wv) : En → Sto → SR := fun env st => (c env st).sb fun w st1 => .rt (.w w) st1
def sRetF (c : En → Sto → Rs Wv) : En → Sto → SR := fun env st => (c env st).sb fun w st1 => .rt (.f w) st1
def sRetT (c : En → Sto → Rs (List Wv)) : En → Sto → SR := fun env st => (c env st).sb fun ws st1 => if ws.length ≤ 1000 then .rt (.ft ws) st1 else .no
def sRetN : En → Sto → SR := fun env st => .rt (.w (.d .none)) st
def sExp (c : En → Sto → Rs Wv) : En → Sto → SR := fun env st => (c env st).sb fun _ st1 => .nx env st1
def sIf (t : En → Sto → Rs Bool) (a b : En → Sto → SR) : En → Sto → SR := fun env st => (t env st).sb fun x st1 => if x then a env st1 else b env st1
def sNo : En → Sto → SR := fun _ _ => .no
section
variable {M : Md} {X : Cx} {B : Tb} {k : Nat} {pins : List (Addr × Obj)} {σ : L2.St} {H : Hp} {s : Shared} {m : Mp} {env : En} {st : Sto} {W : WX} {D : Ends} {pos : Pos}
theorem PS.imp {e : Stmt} {t t' : TS} (h : PS X e t) (q : ∀ D σ H, t' D σ H → t D σ H) : PS X e t' := ⟨fun pins s σ H D I x => h.run pins s σ H D I (q D σ H x)⟩
theorem PSs.imp {e : List Stmt} {t t' : TS} (h : PSs X e t) (q : ∀ D σ H, t' D σ H → t D σ H) : PSs X e t' := ⟨fun pins s σ H D I x => h.run pins s σ H D I (q D σ H x)⟩
theorem okXs.x {n : Nat} {e : Xc} {st' : Sto} (h : okXs X W m n H e st') : okX X W m n H σ e st' := fun c d H' m' f S r => h c d σ H' m' f S r
theorem okXs.tr {m1 : Mp} {n n1 : Nat} {H1 : Hp} {e : Xc} {st' : Sto} (f : Fol m n H m1 n1 H1) (h : okXs X W m n H e st') : okXs X W m1 n1 H1 e st' := fun c d σ' H' m' f' S' r => h c d σ' H' m' (f.trans f') S' r
theorem okN.tr {m1 : Mp} {n n1 : Nat} {H1 : Hp} {e : En} {st' : Sto} (f : Fol m n H m1 n1 H1) (h : okN X m n H D e st') : okN X m1 n1 H1 D e st' := fun σ' H' m' f' S' r => h σ' H' m' (f.trans f') S' r
theorem okR.tr {m1 : Mp} {n n1 : Nat} {H1 : Hp} {e : Rt} {st' : Sto} (f : Fol m n H m1 n1 H1) (h : okR X m n H D e st') : okR X m1 n1 H1 D e st' := fun v H' m' f' S' r => h v H' m' (f.trans f') S' r
/-- a value, then the statement -/
theorem te_sb {c : En → Sto → Rs Wv} {f : En → Wv → Sto → SR} {Q : VK} (S : Sim X.K H m st) (R : EnvR X.K H m st.length env σ) (hp : ((c env st).sb (f env)).post (okN X m st.length H D) (okR X m st.length H D) (okXs X W m st.length H))
    (q : ∀ w st1 v H1 m1, Fol m st.length H m1 st1.length H1 → Sim X.K H1 m1 st1 → EnvR X.K H1 m1 st1.length env σ → RW X.K H1 m1 st1.length v w → (f env w st1).post (okN X m st.length H D) (okR X m st.length H D) (okXs X W m st.length H) → Q v H1) : tE X W c σ H Q := by
  rw [Rs.post_sb] at hp
  exact ⟨m, env, st, S, R, Rs.post_mono hp (fun w st1 h v H1 m1 f1 S1 r1 => q w st1 v H1 m1 f1 S1 (R.mv f1) r1 h) fun _ _ h => h.x⟩
theorem db_nil : DB X [] sNil := ⟨fun W tk => PSs.imp pss_nil fun D σ H ⟨m, env, st, S, R, hp⟩ => hp σ H m .refl S R⟩
theorem db_cons {e : Stmt} {es : List Stmt} {a b : En → Sto → SR} (h1 : DS X e a) (h2 : DB X es b) : DB X (e :: es) (sSeq a b) := by
  refine ⟨fun W tk => PSs.imp (pss_cons (h1.ps W tk) (h2.pss W tk)) fun D σ H ⟨m, env, st, S, R, hp⟩ => ?_⟩
  unfold sSeq at hp
  rw [SR.post_seq] at hp
  exact ⟨m, env, st, S, R, SR.post_mono hp (fun env1 st1 q σ1 H1 m1 f1 S1 R1 => ⟨m1, env1, st1, S1, R1, SR.post_mono q (fun _ _ q => okN.tr f1 q) (fun _ _ q => okR.tr f1 q) fun _ _ q => okXs.tr f1 q⟩) (fun _ _ q => q) fun _ _ q => q⟩
theorem db_one {e : Stmt} {a : En → Sto → SR} (h1 : DS X e a) : DB X [e] a := ⟨fun W tk => pss_one (h1.ps W tk)⟩
theorem ds_set (c : Cxt M X B k) (i : Nat) {x : Str} {e : Expr} {ce : En → Sto → Rs Wv} {pos' : Pos} (hi : B.N[i]? = some x) (hl : i ∈ B.ls) (he : DE X e ce) (hs : swapsWith e (some (.Name x pos')) pos.line X.env = pure false := by rfl) : DS X (.Assign [.Name x pos'] e pos) (sSet i ce) := by
  obtain ⟨l1, l2⟩ := c.loc i hl x hi
  refine ⟨fun W tk => PS.imp (ps_set (by rw [c.hN]; exact c.nd) (by rw [c.hN]; exact hi) l1 (he.pe W tk) hs l2) fun D σ H ⟨m, env, st, S, R, hp⟩ => ?_⟩
  exact te_sb (f := fun env w st1 => .nx (env.set i (some w)) st1) S R hp fun w st1 v H1 m1 f1 S1 R1 r1 q => q _ H1 m1 f1 S1 (R1.set i r1)
theorem ds_ret {e : Expr} {ce : En → Sto → Rs Wv} (he : DE X e ce) : DS X (.Return (some e) pos) (sRet ce) := by
  refine ⟨fun W tk => PS.imp (ps_ret (he.pe W tk)) fun D σ H ⟨m, env, st, S, R, hp⟩ => ?_⟩
  exact te_sb (f := fun env w st1 => .rt (.w w) st1) S R hp fun w st1 v H1 m1 f1 S1 R1 r1 q => q v H1 m1 f1 S1 r1
theorem ds_retf {e : Expr} {ce : En → Sto → Rs Wv} (he : DE X e ce) : DS X (.Return (some e) pos) (sRetF ce) := by
  refine ⟨fun W tk => PS.imp (ps_ret (he.pe W tk)) fun D σ H ⟨m, env, st, S, R, hp⟩ => ?_⟩
  exact te_sb (f := fun env w st1 => .rt (.f w) st1) S R hp fun w st1 v H1 m1 f1 S1 R1 r1 q => q v H1 m1 f1 S1 r1
theorem ds_exp {e : Expr} {ce : En → Sto → Rs Wv} (he : DE X e ce) (hs : swapsWith e none pos.line X.env = pure false := by rfl) : DS X (.Expr e pos) (sExp ce) := by
  refine ⟨fun W tk => PS.imp (ps_expr (he.pe W tk) hs) fun D σ H ⟨m, env, st, S, R, hp⟩ => ?_⟩
  exact te_sb (f := fun env w st1 => .nx env st1) S R hp fun w st1 v H1 m1 f1 S1 R1 r1 q => q σ H1 m1 f1 S1 R1
theorem ds_if {t : Expr} {a b : List Stmt} {ct : En → Sto → Rs Bool} {ca cb : En → Sto → SR} (ht : DT X t ct) (ha : DB X a ca) (hb : DB X b cb) : DS X (.If t a b pos) (sIf ct ca cb) := by
  refine ⟨fun W tk => PS.imp (ps_if (ht.pt W tk) (ha.pss W tk) (hb.pss W tk)) fun D σ H ⟨m, env, st, S, R, hp⟩ => ?_⟩
  unfold sIf at hp
  rw [Rs.post_sb] at hp
  refine ⟨m, env, st, S, R, Rs.post_mono hp (fun x st1 q H1 m1 f1 S1 => ?_) fun _ _ h => h.x⟩
  have go : ∀ {c : En → Sto → SR}, (c env st1).post (okN X m st.length H D) (okR X m st.length H D) (okXs X W m st.length H) → tS X W c D σ H1 := fun q =>
    ⟨m1, env, st1, S1, R.mv f1, SR.post_mono q (fun _ _ q => okN.tr f1 q) (fun _ _ q => okR.tr f1 q) fun _ _ q => okXs.tr f1 q⟩
  cases x with
  | true => exact go q
  | false => exact go q
/-- what is never reached -/
theorem ds_no {e : Stmt} : DS X e sNo := ⟨fun W tk => PS.imp ps_never fun D σ H ⟨m, env, st, S, R, hp⟩ => hp⟩
/-! ### targets -/
/-- σ' is σ but at the slots of S -/
def But (S : List Nat) (σ σ' : L2.St) : Prop := σ'.length = σ.length ∧ ∀ j, j ∉ S → σ'[j]? = σ[j]?
theorem But.refl {S : List Nat} {σ : L2.St} : But S σ σ := ⟨rfl, fun _ _ => rfl⟩
theorem But.set {S : List Nat} {σ : L2.St} {i : Nat} {v : Option V} (h : i ∈ S) : But S σ (σ.set i v) := ⟨by simp, fun j hj => List.getElem?_set_ne (fun e : i = j => hj (e ▸ h))⟩
theorem But.trans {S : List Nat} {σ σ1 σ2 : L2.St} (a : But S σ σ1) (b : But S σ1 σ2) : But S σ σ2 := ⟨b.1.trans a.1, fun j hj => (b.2 j hj).trans (a.2 j hj)⟩
structure DG (X : Cx) (S : List Nat) (tg : Expr) (g : Wv → En → Option En) : Prop where
  pg : PG X tg fun v σ H Q => ∃ m n env w env', RW X.K H m n v w ∧ EnvR X.K H m n env σ ∧ g w env = some env' ∧ ∀ σ', EnvR X.K H m n env' σ' → But S σ σ' → Q σ' H
structure DGs (X : Cx) (S : List Nat) (tg : List Expr) (g : List PyData → En → Option En) : Prop where
  pgs : PGs X tg fun vs σ H Q => ∃ m n env ds env', RpA X.K H (Off m n) vs ds ∧ EnvR X.K H m n env σ ∧ g ds env = some env' ∧ ∀ σ', EnvR X.K H m n env' σ' → But S σ σ' → Q σ' H
def gN (i : Nat) : Wv → En → Option En := fun w env => some (env.set i (some w))
def gTp (g : List PyData → En → Option En) : Wv → En → Option En := fun w env => match w with
  | .d (.tuple xs) => g xs env
  | _ => none
def gNl : List PyData → En → Option En := fun xs env => match xs with
  | [] => some env
  | _ => none
def gCn (g : Wv → En → Option En) (h : List PyData → En → Option En) : List PyData → En → Option En := fun xs env => match xs with
  | x :: r => (g (.d x) env).bind (h r)
  | [] => none
theorem PG.imp {e : Expr} {t t' : TG} (h : PG X e t) (q : ∀ v σ H Q, t' v σ H Q → t v σ H Q) : PG X e t' := ⟨fun pins s σ H v u Q I r x => h.run pins s σ H v u Q I r (q v σ H Q x)⟩
theorem PGs.imp {e : List Expr} {t t' : TGs} (h : PGs X e t) (q : ∀ v σ H Q, t' v σ H Q → t v σ H Q) : PGs X e t' := ⟨fun pins s σ H v u Q I r x => h.run pins s σ H v u Q I r (q v σ H Q x)⟩
theorem dg_name (c : Cxt M X B k) (S : List Nat) (i : Nat) {x : Str} (hi : B.N[i]? = some x) (hl : i ∈ B.ls) (hS : i ∈ S) : DG X S (.Name x pos) (gN i) := by
  obtain ⟨l1, l2⟩ := c.loc i hl x hi
  refine ⟨PG.imp (pg_name (by rw [c.hN]; exact c.nd) (by rw [c.hN]; exact hi) l1 l2) fun v σ H Q ⟨m, n, env, w, env', r, R, e, q⟩ => ?_⟩
  cases e
  exact q _ (R.set i r) (.set hS)
theorem dgs_nil (S : List Nat) : DGs X S [] gNl := by
  refine ⟨PGs.imp pgs_nil fun v σ H Q ⟨m, n, env, ds, env', r, R, e, q⟩ => ?_⟩
  unfold gNl at e
  split at e
  · cases e
    cases r
    exact ⟨rfl, q σ R .refl⟩
  · cases e
theorem dgs_cons {S : List Nat} {e : Expr} {es : List Expr} {g : Wv → En → Option En} {h : List PyData → En → Option En} (h1 : DG X S e g) (h2 : DGs X S es h) (hs : (assignEach (e :: es) X.env).map (·.2) = assign e X.env :: (assignEach es X.env).map (·.2) := by rfl) : DGs X S (e :: es) (gCn g h) := by
  refine ⟨PGs.imp (pgs_cons h1.pg h2.pgs hs) fun v σ H Q ⟨m, n, env, ds, env', r, R, e, q⟩ => ?_⟩
  unfold gCn at e
  split at e
  · rename_i x r'
    cases r with
    | @cons v0 vr _ _ r1 r2 =>
      cases e1 : g (.d x) env with
      | none => rw [e1] at e; cases e
      | some env1 =>
        rw [e1] at e
        exact ⟨v0, vr, rfl, m, n, env, .d x, env1, r1, R, e1, fun σ1 R1 b1 => ⟨m, n, env1, r', env', r2, R1, e, fun σ2 R2 b2 => q σ2 R2 (b1.trans b2)⟩⟩
  · cases e
/-- how many items a target asks -/
def Asks (g : List PyData → En → Option En) (n : Nat) : Prop := ∀ xs env env', g xs env = some env' → xs.length = n
theorem asks_nil : Asks gNl 0 := fun xs env env' h => by
  unfold gNl at h
  split at h
  · rfl
  · cases h
theorem asks_cons {g : Wv → En → Option En} {h : List PyData → En → Option En} {n : Nat} (a : Asks h n) : Asks (gCn g h) (n + 1) := fun xs env env' e => by
  unfold gCn at e
  split at e
  · rename_i x r
    cases e1 : g (.d x) env with
    | none => rw [e1] at e; cases e
    | some env1 => rw [e1] at e; simp [a r env1 env' e]
  · cases e
theorem dg_tup (c : Cxt M X B k) {S : List Nat} {es : List Expr} {j n : Nat} {g : List PyData → En → Option En} (h : DGs X S es g) (a : Asks g n) (hn : (assignEach es X.env).length = n := by rfl) (hst : (assignEach es X.env).findIdx? (·.1) = none := by rfl) : DG X S (.Tuple es j pos) (gTp g) := by
  refine ⟨PG.imp (pg_tup c.calm h.pgs hn hst) fun v σ H Q ⟨m, n', env, w, env', r, R, e, q⟩ => ?_⟩
  unfold gTp at e
  split at e
  · rename_i xs
    cases r with
    | tup h1 h2 => exact ⟨_, _, rfl, h1.sq, by rw [h2.len]; exact a _ _ _ e, m, n', env, xs, env', h2, R, e, q⟩
  · cases e
def sAsg (g : Wv → En → Option En) (c : En → Sto → Rs Wv) : En → Sto → SR := fun env st => (c env st).sb fun w st1 => match g w env with
  | some env' => .nx env' st1
  | none => .no
theorem ds_asg {tg e : Expr} {g : Wv → En → Option En} {ce : En → Sto → Rs Wv} {S0 : List Nat} (he : DE X e ce) (hg : DG X S0 tg g) (hs : swapsWithSole [tg] e pos.line X.env = pure false := by rfl) (hw : swappedStores [tg] e X.env = pure none := by rfl)
    (h1 : (assignEach [tg] X.env).map (·.2) = [assign tg X.env] := by rfl) : DS X (.Assign [tg] e pos) (sAsg g ce) := by
  refine ⟨fun W tk => PS.imp (ps_asg (he.pe W tk) hg.pg hs hw h1) fun D σ H ⟨m, env, st, S, R, hp⟩ => ?_⟩
  refine te_sb (f := fun env w st1 => match g w env with | some env' => .nx env' st1 | none => .no) S R hp fun w st1 v H1 m1 f1 S1 R1 r1 q => ?_
  split at q
  · exact ⟨m1, st1.length, env, w, _, r1, R1, by assumption, fun σ' R' _ => q σ' H1 m1 f1 S1 R'⟩
  · exact q.elim
/-- a, b = x, y of plain names -/
def sPar2 (i j : Nat) (c : En → Sto → Rs (List Wv)) : En → Sto → SR := fun env st => (c env st).sb fun ws st1 => match ws with
  | [v, w] => .nx ((env.set i (some v)).set j (some w)) st1
  | _ => .no
theorem ds_par2 (c : Cxt M X B k) (i j : Nat) {x y : Str} {a b : Expr} {ca : En → Sto → Rs (List Wv)} {px py pt : Pos} {kt : Nat} {k2 : Nat} {pt2 : Pos} (hi : B.N[i]? = some x) (hj : B.N[j]? = some y) (hij : i ≠ j) (hx : X.env.scope.names.lookup x = some .local) (hy : X.env.scope.names.lookup y = some .local) (ha : DA X [a, b] ca)
    (hw : swappedStores [.Tuple [.Name x px, .Name y py] kt pt] (.Tuple [a, b] k2 pt2) X.env = pure (some [x, y])) (hs : swapsWithSole [.Tuple [.Name x px, .Name y py] kt pt] (.Tuple [a, b] k2 pt2) pos.line X.env = pure false := by rfl) :
    DS X (.Assign [.Tuple [.Name x px, .Name y py] kt pt] (.Tuple [a, b] k2 pt2) pos) (sPar2 i j ca) := by
  refine ⟨fun W tk => PS.imp (ps_par c.calm (by rw [c.hN]; exact c.nd) (by rw [c.hN]; exact hi) (by rw [c.hN]; exact hj) hij hx hy (ha.pa W tk) hw hs) fun D σ H ⟨m, env, st, S, R, hp⟩ => ?_⟩
  unfold sPar2 at hp
  rw [Rs.post_sb] at hp
  refine ⟨m, env, st, S, R, Rs.post_mono hp (fun ws st1 q vs H1 m1 f1 S1 r1 => ?_) fun _ _ h => h.x⟩
  split at q
  · cases r1 with
    | cons r1 r2 =>
      cases r2 with
      | cons r2 r3 =>
        cases r3
        exact ⟨_, _, rfl, q _ H1 m1 f1 S1 (((R.mv f1).set i r1).set j r2)⟩
  · exact q.elim
def sPar3 (i j l : Nat) (c : En → Sto → Rs (List Wv)) : En → Sto → SR := fun env st => (c env st).sb fun ws st1 => match ws with
  | [u, v, w] => .nx (((env.set i (some u)).set j (some v)).set l (some w)) st1
  | _ => .no
theorem ds_par3 (c : Cxt M X B k) (i j l : Nat) {x y z : Str} {a b e : Expr} {ca : En → Sto → Rs (List Wv)} {px py pz pt : Pos} {kt : Nat} {k2 : Nat} {pt2 : Pos} (hi : B.N[i]? = some x) (hj : B.N[j]? = some y) (hl : B.N[l]? = some z) (hij : i ≠ j) (hil : i ≠ l) (hjl : j ≠ l)
    (hx : X.env.scope.names.lookup x = some .local) (hy : X.env.scope.names.lookup y = some .local) (hz : X.env.scope.names.lookup z = some .local) (ha : DA X [a, b, e] ca)
    (hw : swappedStores [.Tuple [.Name x px, .Name y py, .Name z pz] kt pt] (.Tuple [a, b, e] k2 pt2) X.env = pure (some [x, y, z])) (hs : swapsWithSole [.Tuple [.Name x px, .Name y py, .Name z pz] kt pt] (.Tuple [a, b, e] k2 pt2) pos.line X.env = pure false := by rfl) :
    DS X (.Assign [.Tuple [.Name x px, .Name y py, .Name z pz] kt pt] (.Tuple [a, b, e] k2 pt2) pos) (sPar3 i j l ca) := by
  refine ⟨fun W tk => PS.imp (ps_par3 c.calm (by rw [c.hN]; exact c.nd) (by rw [c.hN]; exact hi) (by rw [c.hN]; exact hj) (by rw [c.hN]; exact hl) hij hil hjl hx hy hz (ha.pa W tk) hw hs) fun D σ H ⟨m, env, st, S, R, hp⟩ => ?_⟩
  unfold sPar3 at hp
  rw [Rs.post_sb] at hp
  refine ⟨m, env, st, S, R, Rs.post_mono hp (fun ws st1 q vs H1 m1 f1 S1 r1 => ?_) fun _ _ h => h.x⟩
  split at q
  · cases r1 with
    | cons r1 r2 =>
      cases r2 with
      | cons r2 r3 =>
        cases r3 with
        | cons r3 r4 =>
          cases r4
          exact ⟨_, _, _, rfl, q _ H1 m1 f1 S1 ((((R.mv f1).set i r1).set j r2).set l r3)⟩
  · exact q.elim
end
end
section
variable [Wtp] [Tbl]
/-! ## a comprehension's block -/
def Tb.blk (B : Tb) (us ls : List Nat) (gs cs : List Str) : Tb := ⟨B.N, us, ls, [], gs, cs, false, B.gd, B.lq⟩
def kdV : Option NameKind → Bool
  | some .local => true
  | some .cell => true
  | some .free => true
  | _ => false
def kdL : Option NameKind → Bool
  | some .local => true
  | some .cell => true
  | _ => false
def kdC : Option NameKind → Bool
  | some .cell => true
  | some .free => true
  | _ => false
def kdG : Option NameKind → Bool
  | some .globalImplicit => true
  | _ => false
def blkT (B : Tb) (us ls : List Nat) (gs cs : List Str) (sc : Scope) (own : List (Str × Nat)) : Bool :=
  (match sc.kind with | .function => true | _ => false) &&
  ((sc.names.all fun y => decide (sc.names.lookup y.1 = some y.2)) &&
  ((own.all fun p => decide (B.N[p.2]? = some p.1)) &&
  ((sc.names.all fun y => match y.2 with
    | .free => decide (y.1 ∈ B.cs)
    | .local => decide (y.1 ∈ own.map (·.1)) || decide (y.1 ∉ B.N)
    | .cell => decide (y.1 ∈ own.map (·.1)) || decide (y.1 ∉ B.N)
    | _ => true) &&
  ((us.all fun i => match B.N[i]? with | some x => kdV (sc.names.lookup x) | none => true) &&
  ((ls.all fun i => match B.N[i]? with | some x => kdL (sc.names.lookup x) | none => true) &&
  ((gs.all fun x => kdG (sc.names.lookup x)) && (cs.all fun x => kdC (sc.names.lookup x))))))))
section
variable {M : Md} {X : Cx} {B : Tb} {k : Nat} {sc : Scope} {own : List (Str × Nat)} {us ls : List Nat} {gs cs : List Str}
theorem relS_keep {s0 : Scope} {x : Str} {q : NameKind} (h : sc.names.lookup x = some q) (hf : q ≠ .free) : (relS sc s0).names.lookup x = some q := lookup_relS_keep hf h
theorem relS_free {s0 : Scope} : ∀ {names : List (Str × NameKind)} {x : Str}, names.lookup x = some .free →
    (names.map fun (n, k) => if (k == NameKind.free && s0.kind == .function && s0.names.lookup n == some .cell) then (n, NameKind.cell) else (n, k)).lookup x = some .cell ∨
    (names.map fun (n, k) => if (k == NameKind.free && s0.kind == .function && s0.names.lookup n == some .cell) then (n, NameKind.cell) else (n, k)).lookup x = some .free
  | [], _, h => by simp at h
  | (n, q) :: r, x, h => by
    have ih := @relS_free s0 r x
    cases e : x == n with
    | true =>
      simp only [List.lookup_cons, e] at h
      cases h
      simp only [List.map_cons]
      split
      · exact .inl (by simp only [List.lookup_cons, e])
      · exact .inr (by simp only [List.lookup_cons, e])
    | false =>
      simp only [List.lookup_cons, e] at h
      simp only [List.map_cons]
      split
      · rcases ih h with z | z
        · exact .inl (by simp only [List.lookup_cons, e]; exact z)
        · exact .inr (by simp only [List.lookup_cons, e]; exact z)
      · rcases ih h with z | z
        · exact .inl (by simp only [List.lookup_cons, e]; exact z)
        · exact .inr (by simp only [List.lookup_cons, e]; exact z)
theorem vis_rel {s0 : Scope} {x : Str} (h : kdV (sc.names.lookup x) = true) : Vis (relS sc s0) x := by
  unfold kdV at h
  split at h
  · exact .inl (relS_keep (by assumption) (by decide))
  · exact .inr (.inl (relS_keep (by assumption) (by decide)))
  · rename_i e
    rcases relS_free (s0 := s0) e with z | z
    · exact .inr (.inl z)
    · exact .inr (.inr z)
  · cases h
theorem cap_rel {s0 : Scope} {x : Str} (h : kdC (sc.names.lookup x) = true) : (relS sc s0).names.lookup x = some .cell ∨ (relS sc s0).names.lookup x = some .free := by
  unfold kdC at h
  split at h
  · exact .inl (relS_keep (by assumption) (by decide))
  · rename_i e
    exact relS_free (s0 := s0) e
  · cases h
theorem loc_rel {s0 : Scope} {x : Str} (h : kdL (sc.names.lookup x) = true) : Loc (relS sc s0) x ∧ ((sc.names.lookup x == some .cell) = true ∨ (relS sc s0).names.lookup x = some .local) := by
  unfold kdL at h
  split at h
  · rename_i e
    exact ⟨.inl (relS_keep e (by decide)), .inr (relS_keep e (by decide))⟩
  · rename_i e
    exact ⟨.inr (relS_keep e (by decide)), .inl (by rw [e]; rfl)⟩
  · cases h
theorem Cxt.blkOk (c : Cxt M X B k) (h : blkT B us ls gs cs sc own = true) : BlkOk X.N X.env.scope sc own := by
  unfold blkT at h
  simp only [Bool.and_eq_true, List.all_eq_true, decide_eq_true_eq] at h
  obtain ⟨h1, h2, h3, h4, _⟩ := h
  refine ⟨?_, h2, by rw [c.hN]; exact h3, fun y hy e => ?_, fun y hy e => ?_⟩
  · split at h1
    · assumption
    · cases h1
  · have q := h4 y hy
    simp only [e, decide_eq_true_eq] at q
    exact c.cs _ q
  · have q := h4 y hy
    rw [c.hN]
    rcases e with e | e <;> (simp only [e, Bool.or_eq_true, decide_eq_true_eq] at q; exact q)
theorem Cxt.blk (c : Cxt M X B k) (h : blkT B us ls gs cs sc own = true) (s : Shared) (H : Hp) (C : Addr) (cl : List (Str × Addr)) (fp : List Addr) : Cxt M (X.blk s H sc (compEnvC sc cl C X.env) fp) (B.blk us ls gs cs) k := by
  unfold blkT at h
  simp only [Bool.and_eq_true, List.all_eq_true, decide_eq_true_eq] at h
  obtain ⟨h1, h2, h3, h4, h5, h6, h7, h8⟩ := h
  refine ⟨c.hP, c.hw, c.hK, c.mg, c.hb, c.hN, c.nd, c.calm, fun z => (Bool.false_ne_true z).elim, c.room, c.gu, fun i hi x hx => ?_, fun i hi x hx => ?_, fun i hi => absurd hi List.not_mem_nil, fun j x hx => ?_, fun x hx => ?_, fun z => (Bool.false_ne_true z).elim, c.lam, fun z => (Bool.false_ne_true z).elim⟩
  · have q := h5 i hi
    rw [show B.N[i]? = some x from hx] at q
    exact vis_rel q
  · have q := h6 i hi
    rw [show B.N[i]? = some x from hx] at q
    exact loc_rel q
  · have q := h7 x (List.mem_of_getElem? hx)
    unfold kdG at q
    split at q
    · rename_i e
      exact relS_keep e (by decide)
    · cases q
  · exact cap_rel (h8 x hx)
end
/-! ## what is walked -/
structure Sc where
  xs : List PyData
  lv : List (Nat × List PyData)
def lvOk (lv : List (Nat × List PyData)) (st : Sto) : Prop := ∀ p ∈ lv, st[p.1]? = some (.lst p.2)
@[simp] theorem lvOk_nil (st : Sto) : lvOk [] st = True := eq_true fun p hp => absurd hp List.not_mem_nil
theorem lvOk_one (i : Nat) (xs : List PyData) (st : Sto) : lvOk [(i, xs)] st = (st[i]? = some (.lst xs)) := propext ⟨fun h => h (i, xs) (by simp), fun h p hp => by cases List.mem_singleton.mp hp; exact h⟩
theorem lvOk_app (a b : List (Nat × List PyData)) (st : Sto) : lvOk (a ++ b) st = (lvOk a st ∧ lvOk b st) := propext ⟨fun h => ⟨fun p hp => h p (by simp [hp]), fun p hp => h p (by simp [hp])⟩, fun h p hp => (List.mem_append.mp hp).elim (h.1 p) (h.2 p)⟩
structure IsIt (K : Frg) (J : It) (m : Mp) (n : Nat) (H : Hp) (sc : Sc) : Prop where
  go : ∀ i H2 m2 st2, Fol m n H m2 st2.length H2 → Sim K H2 m2 st2 → lvOk sc.lv st2 → i < sc.xs.length → J.go i H2
  stop : ∀ H2 m2 st2, Fol m n H m2 st2.length H2 → Sim K H2 m2 st2 → lvOk sc.lv st2 → J.stop sc.xs.length H2
  yld : ∀ i H2 m2 st2 v H3, Fol m n H m2 st2.length H2 → Sim K H2 m2 st2 → lvOk sc.lv st2 → i < sc.xs.length → J.yld i H2 v H3 → (∀ a o, H2 a = some o → H3 a = some o) ∧ ∃ d, sc.xs[i]? = some d ∧ Rp K H3 (Off m2 st2.length) v d
def tI (X : Cx) (W : WX) (c : En → Sto → Rs Sc) : TI := fun σ H R => ∃ m env st, Sim X.K H m st ∧ EnvR X.K H m st.length env σ ∧
  (c env st).post (fun sc st' => ∀ J H' m', Fol m st.length H m' st'.length H' → Sim X.K H' m' st' → IsIt X.K J m' st'.length H' sc → R J H') (okX X W m st.length H σ)
structure DI (X : Cx) (tg e : Expr) (c : En → Sto → Rs Sc) : Prop where
  pi : ∀ W, Takes X W → PI X tg e (tI X W c)
section
open Classical
/-- the turns of a for -/
noncomputable def forL (g : Wv → En → Option En) (b : En → Sto → SR) (lv : List (Nat × List PyData)) : List PyData → En → Sto → SR
  | [], env, st => if lvOk lv st then .nx env st else .no
  | x :: r, env, st => if lvOk lv st then match g (.d x) env with
      | some env1 => (b env1 st).seq (forL g b lv r)
      | none => .no
    else .no
noncomputable def sFor (c : En → Sto → Rs Sc) (g : Wv → En → Option En) (b : En → Sto → SR) : En → Sto → SR := fun env st => (c env st).sb fun sc st1 => forL g b sc.lv sc.xs env st1
def whL (t : En → Sto → Rs Bool) (b : En → Sto → SR) : Nat → En → Sto → SR
  | 0, _, _ => .no
  | f + 1, env, st => (t env st).sb fun x st1 => if x then (b env st1).seq (whL t b f) else .nx env st1
def sWh (f : Nat) (t : En → Sto → Rs Bool) (b : En → Sto → SR) : En → Sto → SR := whL t b f
def wipeE (env : En) : List Nat → En
  | [] => env
  | i :: vs => (wipeE env vs).set i none
/-- the turns of a comprehension -/
noncomputable def lcL (g : Wv → En → Option En) (t : En → Sto → Rs Bool) (c : En → Sto → Rs Wv) (lv : List (Nat × List PyData)) (env : En) : List PyData → List PyData → Sto → Rs (List PyData)
  | [], acc, st => if lvOk lv st then .ok acc st else .no
  | x :: r, acc, st => if lvOk lv st then match g (.d x) env with
      | some env1 => match t env1 st with
        | .ok true st1 => (match c env1 st1 with
          | .ok (.d y) st2 => lcL g t c lv env r (acc ++ [y]) st2
          | _ => .no)
        | .ok false st1 => lcL g t c lv env r acc st1
        | _ => .no
      | none => .no
    else .no
noncomputable def cLc (ci : En → Sto → Rs Sc) (g : Wv → En → Option En) (t : En → Sto → Rs Bool) (c : En → Sto → Rs Wv) (vs : List Nat) : En → Sto → Rs (List PyData) := fun env st => (ci env st).bind fun sc st1 =>
  if sc.xs.length ≤ 1000000 then lcL g t c sc.lv (wipeE env vs) sc.xs [] st1 else .no
noncomputable def eLc (ci : En → Sto → Rs Sc) (g : Wv → En → Option En) (t : En → Sto → Rs Bool) (c : En → Sto → Rs Wv) (vs : List Nat) : En → Sto → Rs Wv := fun env st => (cLc ci g t c vs env st).bind fun ys st2 => .ok (.d (.list ys)) st2
noncomputable def eLcN (ci : En → Sto → Rs Sc) (g : Wv → En → Option En) (t : En → Sto → Rs Bool) (c : En → Sto → Rs Wv) (vs : List Nat) : En → Sto → Rs Wv := fun env st => (cLc ci g t c vs env st).bind fun ys st2 => .ok (.r st2.length) (st2 ++ [.lst ys])
end
def tYs : En → Sto → Rs Bool := fun _ st => .ok true st
structure DTs (X : Cx) (es : List Expr) (c : En → Sto → Rs Bool) : Prop where
  pts : ∀ W, Takes X W → PTs X es (tT X W c)
section
variable {M : Md} {X : Cx} {B : Tb} {k : Nat} {pins : List (Addr × Obj)} {σ : L2.St} {H : Hp} {s : Shared} {m : Mp} {env : En} {st : Sto} {W : WX} {D : Ends} {pos : Pos}
theorem seq_post {x : SR} {f : En → Sto → SR} {N : En → Sto → Prop} {R : Rt → Sto → Prop} {E : Xc → Sto → Prop} (h : (x.seq f).post N R E) : x.post (fun env st => (f env st).post N R E) R E := by rw [SR.post_seq] at h; exact h
theorem ds_for (c : Cxt M X B k) {tg e : Expr} {body : List Stmt} {ci : En → Sto → Rs Sc} {g : Wv → En → Option En} {cb : En → Sto → SR} (S0 : List Nat) (hi : DI X tg e ci) (hg : DG X S0 tg g) (hb : DB X body cb) (hf : B.fn = true := by rfl)
    (hs : ∀ x, foldedSetIterable e X.env x = pure x := by intro _; rfl) : DS X (.For tg e body [] pos) (sFor ci g cb) := by
  refine ⟨fun W tk => PS.imp (ps_for (c.po hf) c.calm (hi.pi W tk) hg.pg (hb.pss W tk) hs) fun D σ H ⟨m, env, st, S, R, hp⟩ => ?_⟩
  unfold sFor at hp
  rw [Rs.post_sb] at hp
  refine ⟨m, env, st, S, R, Rs.post_mono hp (fun sc st1 q J H1 m1 f1 S1 it => ?_) fun _ _ h => h.x⟩
  generalize hW : (fun (i mm : Nat) (σ' : L2.St) (H' : Hp) => mm = sc.xs.length - i ∧ i ≤ sc.xs.length ∧ ∃ m2 env2 st2, Fol m1 st1.length H1 m2 st2.length H' ∧ Sim X.K H' m2 st2 ∧ EnvR X.K H' m2 st2.length env2 σ' ∧
    (forL g cb sc.lv (sc.xs.drop i) env2 st2).post (okN X m st.length H D) (okR X m st.length H D) (okXs X W m st.length H)) = Wf
  refine ⟨Wf, by rw [← hW]; exact ⟨_, rfl, Nat.zero_le _, m1, env, st1, .refl, S1, R.mv f1, by simpa using q⟩, ?_⟩
  intro i mm σ2 H2 w
  rw [← hW] at w
  obtain ⟨rfl, hi2, m2, env2, st2, f2, S2, R2, q2⟩ := w
  by_cases hlt : i < sc.xs.length
  · rw [List.drop_eq_getElem_cons hlt] at q2
    unfold forL at q2
    split at q2
    · rename_i hl
      split at q2
      · rename_i env3 he3
        refine .inr ⟨it.go i H2 m2 st2 f2 S2 hl hlt, Wf (i + 1) (sc.xs.length - (i + 1)), fun σ' H' z => ⟨_, by omega, z⟩, fun v H3 y => ?_⟩
        obtain ⟨g3, d, hd, r3⟩ := it.yld i H2 m2 st2 v H3 f2 S2 hl hlt y
        rw [List.getElem?_eq_getElem hlt] at hd
        cases hd
        refine ⟨m2, st2.length, env2, .d sc.xs[i], env3, r3, R2.mv (.same g3), he3, fun σ3 R3 _ => ?_⟩
        refine ⟨m2, env3, st2, S2.grow g3, R3, SR.post_mono (seq_post q2) (fun env4 st4 q4 σ4 H4 m4 f4 S4 R4 => ?_) (fun p st4 q4 => ?_) fun e st4 q4 => ?_⟩
        · rw [← hW]; exact ⟨rfl, hlt, m4, env4, st4, (f2.trans (.same g3)).trans f4, S4, R4, q4⟩
        · exact okR.tr ((f1.trans f2).trans (.same g3)) q4
        · exact okXs.tr ((f1.trans f2).trans (.same g3)) q4
      · exact q2.elim
    · exact q2.elim
  · have e : i = sc.xs.length := by omega
    subst e
    rw [List.drop_length] at q2
    unfold forL at q2
    split at q2
    · rename_i hl
      exact .inl ⟨it.stop H2 m2 st2 f2 S2 hl, q2 σ2 H2 m2 (f1.trans f2) S2 R2⟩
    · exact q2.elim
theorem ds_wh (c : Cxt M X B k) {t : Expr} {body : List Stmt} {ct : En → Sto → Rs Bool} {cb : En → Sto → SR} (f : Nat) (ht : DT X t ct) (hb : DB X body cb) (hf : B.fn = true := by rfl) : DS X (.While t body [] pos) (sWh f ct cb) := by
  refine ⟨fun W tk => PS.imp (ps_while (c.po hf) (ht.pt W tk) (hb.pss W tk)) fun D σ H ⟨m, env, st, S, R, hp⟩ => ?_⟩
  generalize hW : (fun (mm : Nat) (σ' : L2.St) (H' : Hp) => ∃ m2 env2 st2, Fol m st.length H m2 st2.length H' ∧ Sim X.K H' m2 st2 ∧ EnvR X.K H' m2 st2.length env2 σ' ∧
    (whL ct cb mm env2 st2).post (okN X m st.length H D) (okR X m st.length H D) (okXs X W m st.length H)) = Wf
  refine ⟨Wf, by rw [← hW]; exact ⟨f, m, env, st, .refl, S, R, hp⟩, ?_⟩
  intro mm σ2 H2 w
  rw [← hW] at w
  obtain ⟨m2, env2, st2, f2, S2, R2, q2⟩ := w
  cases mm with
  | zero => exact q2.elim
  | succ mm =>
    unfold whL at q2
    rw [Rs.post_sb] at q2
    refine ⟨m2, env2, st2, S2, R2, Rs.post_mono q2 (fun x st3 q3 H3 m3 f3 S3 => ?_) fun e st3 h => (okXs.tr f2 h).x⟩
    cases x with
    | true =>
      refine ⟨Wf mm, fun σ' H' z => ⟨mm, Nat.lt_succ_self _, z⟩, m3, env2, st3, S3, R2.mv f3, SR.post_mono (seq_post q3) (fun env4 st4 q4 σ4 H4 m4 f4 S4 R4 => ?_) (fun p st4 q4 => ?_) fun e st4 q4 => ?_⟩
      · rw [← hW]; exact ⟨m4, env4, st4, (f2.trans f3).trans f4, S4, R4, q4⟩
      · exact okR.tr (f2.trans f3) q4
      · exact okXs.tr (f2.trans f3) q4
    | false => exact q3 σ2 H3 m3 (f2.trans f3) S3 (R2.mv f3)
theorem EnvR.unset {K : Frg} {n : Nat} (h : EnvR K H m n env σ) (i : Nat) : EnvR K H m n (env.set i none) (σ.set i none) := by
  refine ⟨by simp [h.len], fun j u e => ?_⟩
  by_cases q : i = j
  · subst q
    by_cases l : i < env.length
    · rw [List.getElem?_set_self l] at e; cases e
    · rw [List.getElem?_eq_none (by simpa using l)] at e; cases e
  · rw [List.getElem?_set_ne q] at e
    obtain ⟨x, h1, h2⟩ := h.at' j u e
    exact ⟨x, by rw [List.getElem?_set_ne q]; exact h1, h2⟩
theorem EnvR.wipe {K : Frg} {n : Nat} (h : EnvR K H m n env σ) : ∀ vs : List Nat, EnvR K H m n (wipeE env vs) (wipe σ vs)
  | [] => h
  | i :: vs => (EnvR.wipe h vs).unset i
theorem wipe_len (σ : L2.St) : ∀ vs : List Nat, (L2.wipe σ vs).length = σ.length
  | [] => rfl
  | i :: vs => by simp [L2.wipe, wipe_len σ vs]
theorem wipe_in {σ : L2.St} {i : Nat} : ∀ {vs : List Nat}, i ∈ vs → i < σ.length → (L2.wipe σ vs)[i]? = some none
  | j :: vs, h, l => by
    show ((L2.wipe σ vs).set j none)[i]? = some none
    by_cases e : j = i
    · subst e; exact List.getElem?_set_self (by rw [wipe_len]; exact l)
    · rw [List.getElem?_set_ne e]
      exact wipe_in ((List.mem_cons.mp h).resolve_left fun z => e z.symm) l
theorem But.wipe {S : List Nat} {vs : List Nat} {σ σ2 : L2.St} (b : But S (L2.wipe σ vs) σ2) (h : ∀ i ∈ S, i ∈ vs) : L2.wipe σ2 vs = L2.wipe σ vs := by
  have hl : σ2.length = σ.length := b.1.trans (wipe_len σ vs)
  refine List.ext_getElem? fun i => ?_
  by_cases q : i ∈ vs
  · by_cases l : i < σ.length
    · rw [wipe_in q (by rw [hl]; exact l), wipe_in q l]
    · rw [List.getElem?_eq_none (by rw [wipe_len, hl]; omega), List.getElem?_eq_none (by rw [wipe_len]; omega)]
  · rw [wipe_out q, b.2 i fun z => q (h i z)]
theorem dts_nil : DTs X [] tYs := ⟨fun W tk => ⟨fun pins s σ H Q I ⟨m, env, st, S, R, hp⟩ => pts_nil.run pins s σ H Q I (hp H m .refl S)⟩⟩
theorem dts_one {e : Expr} {c : En → Sto → Rs Bool} (h : DT X e c) : DTs X [e] c := ⟨fun W tk => pts_one (h.pt W tk)⟩
def Wno : WX := fun _ _ _ _ => False
theorem takes_no {X : Cx} : Takes X Wno := fun u s' ⟨a, B, sI, pins, σ, H, cls, d, e, I, nb, up, sky, na, os, ag, w⟩ => w.elim
/-- D is being made -/
def Mp.with (m : Mp) (D : Addr) : Mp := ⟨m.ix, fun a => m.F a ∨ a = D⟩
def Mp.done (m : Mp) (D : Addr) : Mp := ⟨m.ix, fun a => m.F a ∧ a ≠ D⟩
theorem Sim.sub {K : Frg} {m' : Mp} (S : Sim K H m st) (hi : m'.ix = m.ix) (hF : ∀ a, m'.F a → m.F a) : Sim K H m' st := by
  have kp : Kp K H (Off m st.length) H (Off m' st.length) := ⟨fun _ _ h => h, fun _ _ _ h => h, fun a o _ h z => ⟨h, by rw [hi]; exact z.1, fun q => z.2 (hF a q)⟩⟩
  refine ⟨fun i o e => ?_, fun i j => by rw [hi]; exact S.inj i j, fun a q => S.ff a (hF a q), fun i h q => S.fi i h (by rw [hi] at q; exact hF _ q), S.tb⟩
  have h := S.ob i o e
  rw [hi]
  cases o with
  | lst xs => obtain ⟨vs, h1, h2⟩ := h; exact ⟨vs, h1, h2.mv kp⟩
  | dct kvs => obtain ⟨vs, h1, h2⟩ := h; exact ⟨vs, h1, RpK.kp kp _ _ h2⟩
  | dtt kvs => obtain ⟨vs, h1, h2⟩ := h; exact ⟨vs, h1, RpT.kp kp _ _ h2⟩
  | lkd es => exact Rp.mv h kp
  | lkl xs => exact FzL.mv h kp
theorem off_done {n : Nat} {D : Addr} : ∀ a, Off m n a → Off (m.done D) n a := fun a z => ⟨z.1, fun q => z.2 q.1⟩
theorem Sim.start {K : Frg} {D : Addr} {o : HO} (S : Sim K H m st) (hn : H D = none) (nt : NT o := by exact fun _ z => nomatch z) : Sim K (upd H D o) (m.with D) st ∧ Fol m st.length H (m.with D) st.length (upd H D o) := by
  have g := grow_upd (o := o) hn
  have f : Fol m st.length H (m.with D) st.length (upd H D o) := ⟨fun a _ h => g a _ h, fun a _ _ h => g a _ h, fun a _ _ h _ => g a _ h, fun _ _ => rfl, fun i a b => absurd b (by omega), Nat.le_refl _, domOf g, fun a h =>
    ⟨fun q => q.resolve_right fun e => nn_no hn (e ▸ h), fun q => .inl q⟩⟩
  refine ⟨⟨fun i o e => (S.ob i o e).mv f fun u => g _ u, S.inj, fun a q => ?_, fun i hi q => ?_, S.tb.ext g⟩, f⟩
  · rcases q with q | q
    · exact domOf g a (S.ff a q)
    · rw [q]; exact ⟨o, upd_same, nt⟩
  · rcases q with q | q
    · exact S.fi i hi q
    · exact nn_no hn (by have := S.there hi; rwa [show m.ix i = D from q] at this)
theorem Fol.done {n n2 : Nat} {m2 : Mp} {H2 : Hp} {D : Addr} (f : Fol m n H m2 n2 H2) (hn : ¬ Nn H D) : Fol m n H (m2.done D) n2 H2 :=
  ⟨f.tup, f.frz, f.rest, f.old, f.new, f.le, f.dom, fun a h => ⟨fun q => (f.eF a h).mp q.1, fun q => ⟨(f.eF a h).mpr q, fun e => hn (e ▸ h)⟩⟩⟩
theorem off_new {n : Nat} {D : Addr} (hF : m.F D) {a : Addr} (z : Off m n a) : Off (mup (m.done D) n D) (n + 1) a := by
  refine ⟨fun i hi => ?_, fun q => z.2 q.1⟩
  by_cases q : i < n
  · rw [mup_old q]; exact z.1 i q
  · have e : i = n := by omega
    rw [e, mup_new]
    exact fun e => z.2 (e ▸ hF)
/-- what was being made becomes the store's newest -/
theorem Sim.made {K : Frg} {D : Addr} {xs : List V} {ds : List PyData} (S : Sim K H m st) (hF : m.F D) (hD : H D = some (.lst xs)) (r : RpA K H (Off m st.length) xs ds) : Sim K H (mup (m.done D) st.length D) (st ++ [.lst ds]) := by
  have kp : Kp K H (Off m st.length) H (Off (mup (m.done D) st.length D) (st.length + 1)) := ⟨fun _ _ h => h, fun _ _ _ h => h, fun a o _ h z => ⟨h, off_new hF z⟩⟩
  have hl : (st ++ [Ob.lst ds]).length = st.length + 1 := by simp
  have hx : ∀ i, i < st.length → m.ix i ≠ D := fun i hi e => S.fi i hi (e ▸ hF)
  refine ⟨fun i u e => ?_, fun i j hi hj e => ?_, fun a z => S.ff a z.1, fun i hi => ?_, S.tb⟩
  · rw [hl]
    by_cases q : i < st.length
    · rw [List.getElem?_append_left q] at e
      rw [mup_old q]
      have h := S.ob i u e
      cases u with
      | lst xs => obtain ⟨vs, h1, h2⟩ := h; exact ⟨vs, h1, h2.mv kp⟩
      | dct kvs => obtain ⟨vs, h1, h2⟩ := h; exact ⟨vs, h1, RpK.kp kp _ _ h2⟩
      | dtt kvs => obtain ⟨vs, h1, h2⟩ := h; exact ⟨vs, h1, RpT.kp kp _ _ h2⟩
      | lkd es => exact Rp.mv h kp
      | lkl xs => exact FzL.mv h kp
    · have e2 : i = st.length := by
        have := (List.getElem?_eq_some_iff.mp e).1
        rw [hl] at this
        omega
      subst e2
      simp at e
      subst e
      rw [mup_new]
      exact ⟨xs, hD, r.mv kp⟩
  · rw [hl] at hi hj
    by_cases h1 : i < st.length
    · by_cases h2 : j < st.length
      · rw [mup_old h1, mup_old h2] at e
        exact S.inj i j h1 h2 e
      · have : j = st.length := by omega
        subst this
        rw [mup_old h1, mup_new] at e
        exact absurd e (hx i h1)
    · have : i = st.length := by omega
      subst this
      by_cases h2 : j < st.length
      · rw [mup_new, mup_old h2] at e
        exact absurd e.symm (hx j h2)
      · omega
  · rw [hl] at hi
    by_cases q : i < st.length
    · rw [mup_old q]; exact fun z => S.fi i q z.1
    · have : i = st.length := by omega
      subst this
      rw [mup_new]
      exact fun z => z.2 rfl
/-- one more item -/
theorem _root_.LamX.Tabs.wr {T : List (Addr × Str)} {D : Addr} {o o' : HO} (t : LamX.Tabs T H) (hD : H D = some o) (ho : (∃ xs, o = .lst xs) ∨ (∃ kvs, o = .dK kvs) ∨ ∃ kvs, o = .dT kvs) : LamX.Tabs T (upd H D o') := fun p hp => by
  obtain ⟨ps, h1, h2, h3⟩ := t p hp
  refine ⟨ps, ?_, h2, fun pos cv hc => ?_⟩
  · rw [upd_ne]; exact h1
    intro e; rw [e, hD] at h1
    rcases ho with ⟨_, rfl⟩ | ⟨_, rfl⟩ | ⟨_, rfl⟩ <;> cases h1
  · obtain ⟨c, e, hq⟩ := h3 pos cv hc
    refine ⟨c, e, ?_⟩
    rw [upd_ne]; exact hq
    intro e2; rw [e2, hD] at hq
    rcases ho with ⟨_, rfl⟩ | ⟨_, rfl⟩ | ⟨_, rfl⟩ <;> cases hq
theorem Kp.push {K : Frg} {n : Nat} {D : Addr} {xs ys : List V} (hF : m.F D) (hD : H D = some (.lst ys)) : Kp K H (Off m n) (upd H D (.lst xs)) (Off m n) := by
  refine ⟨fun a us h => ?_, fun a o u h => ?_, fun a o _ h z => ⟨?_, z⟩⟩
  · rw [upd_ne]; exact h
    intro e; rw [e, hD] at h; cases h
  · rw [upd_ne]; exact h
    intro e; rw [e, hD] at h; cases h
  · rw [upd_ne]; exact h
    exact fun e => z.2 (e ▸ hF)
theorem Sim.push {K : Frg} {D : Addr} {xs ys : List V} (S : Sim K H m st) (hF : m.F D) (hD : H D = some (.lst ys)) : Sim K (upd H D (.lst xs)) m st := by
  have kp := Kp.push (K := K) (n := st.length) (xs := xs) hF hD
  refine ⟨fun i u e => ?_, S.inj, fun a z => ?_, S.fi, S.tb.wr hD (.inl ⟨_, rfl⟩)⟩
  · have h := S.ob i u e
    have hi : i < st.length := (List.getElem?_eq_some_iff.mp e).1
    have hx : m.ix i ≠ D := fun e => S.fi i hi (e ▸ hF)
    cases u with
    | lst xs => obtain ⟨vs, h1, h2⟩ := h; exact ⟨vs, by rw [upd_ne hx]; exact h1, h2.mv kp⟩
    | dct kvs => obtain ⟨vs, h1, h2⟩ := h; exact ⟨vs, by rw [upd_ne hx]; exact h1, RpK.kp kp _ _ h2⟩
    | dtt kvs => obtain ⟨vs, h1, h2⟩ := h; exact ⟨vs, by rw [upd_ne hx]; exact h1, RpT.kp kp _ _ h2⟩
    | lkd es => exact Rp.mv h kp
    | lkl xs => exact FzL.mv h kp
  · by_cases e : a = D
    · rw [e]; exact ⟨_, upd_same, nt_lst⟩
    · obtain ⟨o, h, nt⟩ := S.ff a z
      exact ⟨o, by rw [upd_ne e]; exact h, nt⟩
theorem Fol.done2 {n n2 : Nat} {m2 : Mp} {H2 : Hp} (D : Addr) (f : Fol m n H m2 n2 H2) : Fol (m.done D) n H (m2.done D) n2 H2 :=
  ⟨f.tup, f.frz, f.rest, f.old, f.new, f.le, f.dom, fun a h => and_congr (f.eF a h) Iff.rfl⟩
theorem Fol.updD {n n2 : Nat} {m2 : Mp} {H2 : Hp} {D : Addr} {o : HO} (f : Fol m n H m2 n2 H2) (hn : ¬ Nn H D) (nt : NT o := by exact fun _ z => nomatch z) : Fol m n H m2 n2 (upd H2 D o) := by
  have nd : ∀ {a o}, H a = some o → NT o → a ≠ D := fun h nt e => hn ⟨_, e ▸ h, nt⟩
  exact ⟨fun a xs h => by rw [upd_ne (nd h fun _ z => nomatch z)]; exact f.tup a xs h, fun a o u h => by rw [upd_ne (nd h fun _ z => nomatch z)]; exact f.frz a o u h, fun a o nt h z => by rw [upd_ne (nd h nt)]; exact f.rest a o nt h z, f.old, f.new, f.le, fun a h => by
    by_cases e : a = D
    · rw [e]; exact ⟨_, upd_same, nt⟩
    · obtain ⟨o2, h2, nt2⟩ := f.dom a h
      exact ⟨o2, by rw [upd_ne e]; exact h2, nt2⟩
  , f.eF⟩
theorem Fol.undone {n n2 : Nat} {m2 : Mp} {H2 : Hp} {D : Addr} (f : Fol m n H (m2.done D) n2 H2) (hn : ¬ Nn H D) : Fol m n H m2 n2 H2 :=
  ⟨f.tup, f.frz, f.rest, f.old, f.new, f.le, f.dom, fun a h => ⟨fun q => (f.eF a h).mp ⟨q, fun e => hn (e ▸ h)⟩, fun q => ((f.eF a h).mpr q).1⟩⟩
/-- a comprehension, the new list at D -/
theorem lc_tLc {ci : En → Sto → Rs Sc} {g : Wv → En → Option En} {t : En → Sto → Rs Bool} {c : En → Sto → Rs Wv} {vs : List Nat} {S0 : List Nat} {tg : TG} {Q : VK} (hS : ∀ i ∈ S0, i ∈ vs)
    (htg : ∀ v σ H Q, (∃ m n env w env', RW X.K H m n v w ∧ EnvR X.K H m n env σ ∧ g w env = some env' ∧ ∀ σ', EnvR X.K H m n env' σ' → But S0 σ σ' → Q σ' H) → tg v σ H Q)
    (S : Sim X.K H m st) (R : EnvR X.K H m st.length env σ)
    (hp : (cLc ci g t c vs env st).post (fun ys st' => ∀ D H' m' xs, ¬ Nn H D → Fol m st.length H (m'.done D) st'.length H' → Sim X.K H' m' st' → m'.F D → H' D = some (.lst xs) → RpA X.K H' (Off m' st'.length) xs ys → Q (.ref D) H') (okX X W m st.length H σ)) :
    tLc (tI X W ci) tg (tT X Wno t) (tE X Wno c) vs σ H Q := by
  unfold cLc at hp
  rw [Rs.post_bind] at hp
  refine ⟨m, env, st, S, R, Rs.post_mono hp (fun sc st1 q J H1 m1 f1 S1 it => ?_) fun _ _ h => h⟩
  split at q
  · rename_i hlen
    intro D hD
    have hD0 : ¬ Nn H D := fun z => nn_no hD (f1.dom D z)
    obtain ⟨S0', f0⟩ := S1.start (D := D) (o := .lst []) hD
    generalize hW : (fun (i mm : Nat) (Hc : Hp) => mm = sc.xs.length - i ∧ i ≤ sc.xs.length ∧ ∃ m2 st2 acc us, Fol m1 st1.length H1 (m2.done D) st2.length Hc ∧ Sim X.K Hc m2 st2 ∧ m2.F D ∧ Hc D = some (.lst us) ∧ RpA X.K Hc (Off m2 st2.length) us acc ∧ acc.length ≤ i ∧
      (lcL g t c sc.lv (wipeE env vs) (sc.xs.drop i) acc st2).post (fun ys st' => ∀ D H' m' xs, ¬ Nn H D → Fol m st.length H (m'.done D) st'.length H' → Sim X.K H' m' st' → m'.F D → H' D = some (.lst xs) → RpA X.K H' (Off m' st'.length) xs ys → Q (.ref D) H') (okX X W m st.length H σ)) = Wf
    refine ⟨Wf, ⟨_, by rw [← hW]; exact ⟨rfl, Nat.zero_le _, m1.with D, st1, [], [], f0.done (nn_no hD), S0', .inr rfl, upd_same, .nil, Nat.le_refl _, by simpa using q⟩⟩, ?_⟩
    intro i mm Hc w
    rw [← hW] at w
    obtain ⟨rfl, hi2, m2, st2, acc, us, f2, S2, F2, hc2, r2, ha2, q2⟩ := w
    by_cases hlt : i < sc.xs.length
    · rw [List.drop_eq_getElem_cons hlt] at q2
      unfold lcL at q2
      split at q2
      · rename_i hl
        split at q2
        · rename_i env3 he3
          refine .inr ⟨it.go i Hc m2 st2 (f2.undone (nn_no hD)) S2 hl hlt, Wf (i + 1) (sc.xs.length - (i + 1)), fun H' z => ⟨_, by omega, z⟩, fun v H3 y => ?_⟩
          obtain ⟨g3, d, hd, r3⟩ := it.yld i Hc m2 st2 v H3 (f2.undone (nn_no hD)) S2 hl hlt y
          rw [List.getElem?_eq_getElem hlt] at hd
          cases hd
          have fe : Fol m st.length H m2 st2.length H3 := (f1.trans (f2.undone (nn_no hD))).trans (.same g3)
          refine htg _ _ _ _ ⟨m2, st2.length, wipeE env vs, .d sc.xs[i], env3, r3, (R.mv fe).wipe vs, he3, fun σ3 R3 b3 => ⟨b3.wipe hS, ?_⟩⟩
          refine ⟨m2, env3, st2, S2.grow g3, R3, ?_⟩
          split at q2
          · rename_i st4 ht4
            rw [ht4]
            intro H4 m4 f4 S4
            rw [if_pos rfl]
            refine ⟨m4, env3, st4, S4, R3.mv f4, ?_⟩
            split at q2
            · rename_i y5 st5 hc5
              rw [hc5]
              intro v5 H5 m5 f5 S5 r5
              have c3 : H3 D = some (.lst us) := g3 _ _ hc2
              have fD : Fol m2 st2.length Hc m5 st5.length H5 := (Fol.same g3).trans (f4.trans f5)
              have nD : ∀ i, i < st2.length → m2.ix i ≠ D := fun i hi e => S2.fi i hi (e ▸ F2)
              have c5 : H5 D = some (.lst us) := fD.rest _ _ nt_lst hc2 nD
              have F5 : m5.F D := (fD.eF D ⟨_, hc2, nt_lst⟩).mpr F2
              have kp : Kp X.K H5 (Off m5 st5.length) (upd H5 D (.lst (us ++ [v5]))) (Off m5 st5.length) := .push F5 c5
              refine ⟨us, c5, ?_, ?_⟩
              · have : us.length = acc.length := r2.len
                have := line_lim
                omega
              · rw [← hW]
                refine ⟨rfl, hlt, m5, st5, acc ++ [y5], us ++ [v5], ?_, S5.push F5 c5, F5, upd_same, ?_, ?_, q2⟩
                · exact (f2.trans (fD.done2 D)).updD (nn_no hD)
                · exact ((r2.mv fD.kp).app (.cons r5 .nil)).mv kp
                · simp; exact ha2
            · exact q2.elim
          · rename_i st4 ht4
            rw [ht4]
            intro H4 m4 f4 S4
            rw [if_neg Bool.false_ne_true]
            have fD : Fol m2 st2.length Hc m4 st4.length H4 := (Fol.same g3).trans f4
            have nD : ∀ i, i < st2.length → m2.ix i ≠ D := fun i hi e => S2.fi i hi (e ▸ F2)
            have c5 : H4 D = some (.lst us) := fD.rest _ _ nt_lst hc2 nD
            have F5 : m4.F D := (fD.eF D ⟨_, hc2, nt_lst⟩).mpr F2
            rw [← hW]
            exact ⟨rfl, hlt, m4, st4, acc, us, f2.trans (fD.done2 D), S4, F5, c5, r2.mv fD.kp, Nat.le_succ_of_le ha2, q2⟩
          · exact q2.elim
        · exact q2.elim
      · exact q2.elim
    · have e : i = sc.xs.length := by omega
      subst e
      rw [List.drop_length] at q2
      unfold lcL at q2
      split at q2
      · rename_i hl
        exact .inl ⟨it.stop Hc m2 st2 (f2.undone (nn_no hD)) S2 hl, q2 D Hc m2 us hD0 ((f1.trans (f2.undone (nn_no hD))).done hD0) S2 F2 hc2 r2⟩
      · exact q2.elim
  · exact q.elim
end
end
section
variable [Wtp] [Tbl]
/-! ## enumerate and zip over lists and tuples of any mix -/
inductive Kd where
  | l
  | t
namespace Kd
def ob : Kd → Addr → Obj
  | l, a => { cls := .type "list_iterator", data := .fields #[.ref a, .int 0 0] }
  | t, a => { cls := .type "tuple_iterator", data := .fields #[.ref a, .int 0 0] }
def it (q : Kd) (h : Heap) (i a : Addr) (n : Nat) : Prop := match q with
  | l => h.IsListIter i a n
  | t => h.IsTupleIter i a n
def here (q : Kd) (h : Heap) (a : Addr) (xs : Array Value) : Prop := match q with
  | l => h.IsList a xs
  | t => h.IsTuple a xs
def sq (q : Kd) (K : Frg) (H : Hp) (a : Addr) (xs : List V) : Prop := match q with
  | l => SqL K H a xs
  | t => SqT K H a xs
section
variable {q : Kd} {h h' : Heap} {i a : Addr} {n : Nat} {xs : Array Value}
theorem begins (q : Kd) (a : Addr) (xs : Array Value) : Begins (.ref a) (q.ob a) fun h => q.here h a xs := by
  cases q with
  | l => exact begins_list a xs
  | t => exact begins_tuple a xs
theorem free (q : Kd) (a : Addr) : (q.ob a).isFreed = false := by cases q <;> rfl
theorem first (e : h.get? i = some (q.ob a)) : q.it h i a 0 := by
  cases q with
  | l => exact ⟨_, e, rfl, rfl⟩
  | t => exact ⟨_, e, rfl, rfl⟩
theorem draws {prog : Program} {w : World} {A : Around} (q : Kd) (hh : A.handled = none) (hne : a ≠ i) (xs : Array Value) : Draws prog w A i [i, a] xs.size (fun j v => xs[j]? = some v) (fun j h => q.it h i a j ∧ q.here h a xs) := by
  cases q with
  | l => exact .list hh i a hne xs
  | t => exact .tuple hh i a hne xs
theorem it_at (s : q.it h i a n) (k : ∀ o, h.get? i = some o → h'.get? i = some o) : q.it h' i a n := by
  cases q with
  | l => exact Heap.IsListIter.at s k
  | t => exact Heap.IsTupleIter.at s k
theorem it_ob (s : q.it h i a n) : ∃ o, h.get? i = some o ∧ ∀ v, o.data ≠ .cell v := by
  cases q with
  | l => obtain ⟨o, e, _, d⟩ := s; exact ⟨o, e, fun v z => by rw [d] at z; cases z⟩
  | t => obtain ⟨o, e, _, d⟩ := s; exact ⟨o, e, fun v z => by rw [d] at z; cases z⟩
end
section
variable {X : Cx} {q : Kd} {pins : List (Addr × Obj)} {σ : L2.St} {H : Hp} {s : Shared} {a : Addr} {xs ys : List V}
theorem of (I : Inv X pins σ H s) (h : q.sq X.K H a xs) : ∃ us : List Value, Vals xs us ∧ q.here s.heap a us.toArray := by
  cases q with
  | l => obtain ⟨us, r, p, _⟩ := I.list h; exact ⟨us, r, p.isList⟩
  | t => obtain ⟨us, r, p, _⟩ := I.tuple h; exact ⟨us, r, p⟩
theorem inj (I : Inv X pins σ H s) (h : q.sq X.K H a xs) (h' : q.sq X.K H a ys) : xs = ys := by
  cases q with
  | l => exact I.list_inj h h'
  | t => exact I.tuple_inj h h'
theorem apart (I : Inv X pins σ H s) {i : Addr} (hf : FpOk X pins H i) {n : Nat} {b : Addr} (st : q.it s.heap i b n) {us : Array Value} {p : Kd} (h : p.here s.heap a us) : a ≠ i := by
  intro e
  subst e
  cases p <;> cases q <;> (obtain ⟨o, e1, c1, _⟩ := h; obtain ⟨o2, e2, c2, d2⟩ := st; rw [e1] at e2; cases e2; rw [c1] at c2; exact absurd c2 (by decide))
end
theorem other {q : Kd} {h : Heap} {a : Addr} {xs : Array Value} {o : Obj} {T : String} (p : q.here h a xs) (e : h.get? a = some o) (c : o.cls = .type T) (h1 : T ≠ "list") (h2 : T ≠ "tuple") : False := by
  cases q with
  | l => obtain ⟨o', e1, c1, _⟩ := p; rw [e] at e1; cases e1; rw [c] at c1; exact h1 (by cases c1; rfl)
  | t => obtain ⟨o', e1, c1, _⟩ := p; rw [e] at e1; cases e1; rw [c] at c1; exact h2 (by cases c1; rfl)
end Kd
/-- a new pair at each turn -/
def JZ (K : Frg) (p q : Kd) (a b : Addr) : It :=
  ⟨fun i H => ∃ xs ys x y, p.sq K H a xs ∧ q.sq K H b ys ∧ xs[i]? = some x ∧ ys[i]? = some y,
   fun i H v H' => ∃ T x y, v = .ref T ∧ H T = none ∧ H' = upd H T (.tup [x, y]) ∧ (∀ xs, p.sq K H a xs → xs[i]? = some x) ∧ ∀ ys, q.sq K H b ys → ys[i]? = some y,
   fun i H => ∃ xs ys, p.sq K H a xs ∧ q.sq K H b ys ∧ i = min xs.length ys.length⟩
def JE (K : Frg) (p : Kd) (a : Addr) : It :=
  ⟨fun i H => ∃ xs x, p.sq K H a xs ∧ xs[i]? = some x,
   fun i H v H' => ∃ T x, v = .ref T ∧ H T = none ∧ H' = upd H T (.tup [.int (i : Nat), x]) ∧ ∀ xs, p.sq K H a xs → xs[i]? = some x,
   fun i H => ∃ xs, p.sq K H a xs ∧ i = xs.length⟩
section
variable {P : Program} {w : World} {K : Frg} {elts : List Expr} {kk : Nat} {tpos : Pos}
theorem turn_JE (p : Kd) (a e i : Addr) (hei : e ≠ i) : Turn P w K (.Tuple elts kk tpos) (JE K p a) [e, i] e (fun n h => (∃ old, IsEnum h e i ((0 : Int) + (n : Int)) old) ∧ p.it h i a n) where
  mem := by simp
  obj := fun n h st b hb => by
    obtain ⟨⟨old, he⟩, hi⟩ := st
    rcases (show b = e ∨ b = i by simpa using hb) with z | z
    · subst z; exact ⟨_, he, fun v q => nomatch q⟩
    · subst z; exact Kd.it_ob hi
  keep := fun n h h' st k => by
    obtain ⟨⟨old, he⟩, hi⟩ := st
    exact ⟨⟨old, k e (by simp) _ he⟩, Kd.it_at hi fun o q => k i (by simp) o q⟩
  item := by
    intro X hP hw hK hc n pins s σ H E I hf st hg
    subst hP hw hK
    obtain ⟨⟨old, he⟩, hi⟩ := st
    obtain ⟨xs, x, hx, ex⟩ := hg
    obtain ⟨us, rv, hu⟩ := Kd.of I hx
    obtain ⟨u, eu, ru⟩ := rv.get ex
    have hai : a ≠ i := Kd.apart I (hf i (by simp)) hi hu
    have hae : a ≠ e := fun z => Kd.other hu (by rw [z]; exact he) rfl (by decide) (by decide)
    have G := GoesN.enumFrom (elts := elts) (x1 := kk) (pos := tpos) 0 (p.draws (prog := X.prog) (w := X.w) (A := X.A.in1) (i := i) (a := a) (show X.A.in1.handled = none from I.ok.hd hc) hai us.toArray) e hei (by simp [hei, Ne.symm hae]) (by simp)
    have hlt : n < us.toArray.size := by have := (List.getElem?_eq_some_iff.mp eu).1; simpa using this
    refine wpAny_mono (G.goes n s (fun v s2 => ∃ x' H', Inv X pins σ H' s2 ∧ RelV x' v ∧ (JE X.K p a).yld n H x' H' ∧ ((∃ old, IsEnum s2.heap e i ((0 : Int) + ((n + 1 : Nat) : Int)) old) ∧ p.it s2.heap i a (n + 1)) ∧ ∀ b ∈ [e, i], H' b = none) E hlt ⟨⟨old, he⟩, hi, hu⟩ fun v h' tk y st' keep _ => ?_) (fun r s1 ⟨v, e1, q⟩ => ⟨v, e1, q⟩) fun _ _ z => z
    obtain ⟨T, t, x2, ev, hT, ex2, hI⟩ := y
    subst ev
    have e2 : x2 = u := by
      have : us[n]? = some x2 := by simpa using ex2
      rw [eu] at this; cases this; rfl
    subst e2
    refine ⟨.ref T, upd H T (.tup [.int (n : Nat), x]), ?_, rfl, ⟨T, x, rfl, I.hok.fresh hT, rfl, fun ys hy => by rw [Kd.inj I hy hx]; exact ex⟩, ⟨st'.1, st'.2.1⟩, fun b hb => ?_⟩
    · refine I.turnedNew (t' := tk) (ch := [e, i]) keep hf hT ⟨by show 2 ≤ sizeLine; decide, [.int (0 + (n : Int)) t, x2], .cons ⟨t, by simp⟩ (.cons ru .nil), hI⟩
    · have hb' : b ≠ T := fun z => by
        obtain ⟨o, eo, _⟩ : ∃ o, s.heap.get? b = some o ∧ True := by
          rcases (show b = e ∨ b = i by simpa using hb) with z | z
          · subst z; exact ⟨_, he, trivial⟩
          · subst z; obtain ⟨o, eo, _⟩ := Kd.it_ob hi; exact ⟨o, eo, trivial⟩
        have := Heap.lt_size eo
        rw [z] at this
        exact absurd hT (Nat.not_le.mpr this)
      rw [upd_ne hb']
      exact (hf b hb).1
  done := by
    intro X hP hw hK hc n pins s σ H E I hf st hg
    subst hP hw hK
    obtain ⟨⟨old, he⟩, hi⟩ := st
    obtain ⟨xs, hx, en⟩ := hg
    obtain ⟨us, rv, hu⟩ := Kd.of I hx
    have hai : a ≠ i := Kd.apart I (hf i (by simp)) hi hu
    have hae : a ≠ e := fun z => Kd.other hu (by rw [z]; exact he) rfl (by decide) (by decide)
    have G := GoesN.enumFrom (elts := elts) (x1 := kk) (pos := tpos) 0 (p.draws (prog := X.prog) (w := X.w) (A := X.A.in1) (i := i) (a := a) (show X.A.in1.handled = none from I.ok.hd hc) hai us.toArray) e hei (by simp [hei, Ne.symm hae]) (by simp)
    have hn : n = us.toArray.size := by have := rv.length; simp; omega
    subst hn
    refine G.stops s (fun s1 => Inv X pins σ H s1) E ⟨⟨old, he⟩, hi, hu⟩ fun h' tk keep _ => ?_
    exact I.turnedL (t' := tk) (ch := [e, i]) keep hf
  self := fun A n s Q E st h => by
    obtain ⟨⟨old, he⟩, _⟩ := st
    exact wpAny_pyIter_enum he h
theorem turn_JZ (p q : Kd) (a b N : Addr) (la : a < N) (lb : b < N) : Turn P w K (.Tuple elts kk tpos) (JZ K p q a b) [N + 4, N + 2, N + 3, N, N + 1] (N + 4) (fun n h => IsZip h (N + 4) (N + 2) (N + 3) .none ∧ IsTupOf2 h (N + 2) (.ref (N)) (.ref (N + 1)) ∧ (∃ u0 u1, IsTupOf2 h (N + 3) u0 u1) ∧ p.it h (N) a n ∧ q.it h (N + 1) b n) where
  mem := by simp
  obj := fun n h st b' hb' => by
    obtain ⟨hz, hI, ⟨u0, u1, hO⟩, h0, h1⟩ := st
    rcases (show b' = N + 4 ∨ b' = N + 2 ∨ b' = N + 3 ∨ b' = N ∨ b' = N + 1 by simpa using hb') with e | e | e | e | e
    · rw [e]; exact ⟨_, hz, fun v q => nomatch q⟩
    · rw [e]; exact ⟨_, hI, fun v q => nomatch q⟩
    · rw [e]; exact ⟨_, hO, fun v q => nomatch q⟩
    · rw [e]; exact Kd.it_ob h0
    · rw [e]; exact Kd.it_ob h1
  keep := fun n h h' st k => by
    obtain ⟨hz, hI, ⟨u0, u1, hO⟩, h0, h1⟩ := st
    exact ⟨k _ (by simp) _ hz, k _ (by simp) _ hI, ⟨u0, u1, k _ (by simp) _ hO⟩, Kd.it_at h0 fun o q => k _ (by simp) o q, Kd.it_at h1 fun o q => k _ (by simp) o q⟩
  item := by
    intro X hP hw hK hc n pins s σ H E I hf st hg
    subst hP hw hK
    obtain ⟨hz, hI, hO, h0, h1⟩ := st
    obtain ⟨xs, ys, x, y, q0, q1, e0, e1⟩ := hg
    obtain ⟨us0, rv0, hu0⟩ := Kd.of I q0
    obtain ⟨us1, rv1, hu1⟩ := Kd.of I q1
    obtain ⟨w0, ew0, rw0⟩ := rv0.get e0
    obtain ⟨w1, ew1, rw1⟩ := rv1.get e1
    have D0 := p.draws (prog := X.prog) (w := X.w) (A := X.A.in1) (i := N) (a := a) (show X.A.in1.handled = none from I.ok.hd hc) (by have := la; intro e; rw [e] at this; exact absurd this (Nat.not_lt.mpr (by simp))) us0.toArray
    have D1 := q.draws (prog := X.prog) (w := X.w) (A := X.A.in1) (i := N + 1) (a := b) (show X.A.in1.handled = none from I.ok.hd hc) (by have := lb; intro e; rw [e] at this; exact absurd this (Nat.not_lt.mpr (by simp))) us1.toArray
    have G := GoesN.zip2 (elts := elts) (x1 := kk) (pos := tpos) (zip_sep2 (N := N) (fp1 := [a]) (fun d hd => by rw [List.mem_singleton.mp hd]; exact la) (fp2 := [b]) (fun d hd => by rw [List.mem_singleton.mp hd]; exact lb)) D0 D1
    have hlt : n < min us0.toArray.size us1.toArray.size := by
      have l0 := (List.getElem?_eq_some_iff.mp ew0).1
      have l1 := (List.getElem?_eq_some_iff.mp ew1).1
      simp; omega
    refine wpAny_mono (G.goes n s (fun v s2 => ∃ x' H', Inv X pins σ H' s2 ∧ RelV x' v ∧ (JZ X.K p q a b).yld n H x' H' ∧ (IsZip s2.heap (N + 4) (N + 2) (N + 3) .none ∧ IsTupOf2 s2.heap (N + 2) (.ref (N)) (.ref (N + 1)) ∧ (∃ u0 u1, IsTupOf2 s2.heap (N + 3) u0 u1) ∧ p.it s2.heap (N) a (n + 1) ∧ q.it s2.heap (N + 1) b (n + 1)) ∧ ∀ b ∈ [N + 4, N + 2, N + 3, N, N + 1], H' b = none) E hlt ⟨hz, hI, hO, ⟨h0, hu0⟩, ⟨h1, hu1⟩⟩ fun v h' tk y st' keep _ => ?_) (fun r s1 ⟨v, e1, q⟩ => ⟨v, e1, q⟩) fun _ _ z => z
    obtain ⟨T, x2, y2, ev, hT, k0, k1, hI2⟩ := y
    subst ev
    have v0 : x2 = w0 := by
      have : us0[n]? = some x2 := by simpa using k0
      rw [ew0] at this; cases this; rfl
    subst v0
    have v1 : y2 = w1 := by
      have : us1[n]? = some y2 := by simpa using k1
      rw [ew1] at this; cases this; rfl
    subst v1
    obtain ⟨z', I', O', g0, g1⟩ := st'
    refine ⟨.ref T, upd H T (.tup [x, y]), ?_, rfl, ⟨T, x, y, rfl, I.hok.fresh hT, rfl, fun l hl => by rw [Kd.inj I hl q0]; exact e0, fun l hl => by rw [Kd.inj I hl q1]; exact e1⟩, ⟨z', I', O', g0.1, g1.1⟩, fun b' hb' => ?_⟩
    · refine I.turnedNew (t' := tk) (ch := [N + 4, N + 3, N, N + 1]) keep (fun b' hb' => hf b' (by rcases (show b' = N + 4 ∨ b' = N + 3 ∨ b' = N ∨ b' = N + 1 by simpa using hb') with e | e | e | e <;> (rw [e]; simp))) hT ⟨by show 2 ≤ sizeLine; decide, [x2, y2], .cons rw0 (.cons rw1 .nil), hI2⟩
    · have ne : b' ≠ T := fun e => by
        have : ∃ o, s.heap.get? b' = some o := by
          rcases (show b' = N + 4 ∨ b' = N + 2 ∨ b' = N + 3 ∨ b' = N ∨ b' = N + 1 by simpa using hb') with e | e | e | e | e
          · rw [e]; exact ⟨_, hz⟩
          · rw [e]; exact ⟨_, hI⟩
          · obtain ⟨u0, u1, hO⟩ := hO; rw [e]; exact ⟨_, hO⟩
          · rw [e]; obtain ⟨o, eo, _⟩ := Kd.it_ob h0; exact ⟨o, eo⟩
          · rw [e]; obtain ⟨o, eo, _⟩ := Kd.it_ob h1; exact ⟨o, eo⟩
        obtain ⟨o, eo⟩ := this
        have := Heap.lt_size eo
        rw [e] at this
        exact absurd hT (Nat.not_le.mpr this)
      rw [upd_ne ne]
      exact (hf b' hb').1
  done := by
    intro X hP hw hK hc n pins s σ H E I hf st hg
    subst hP hw hK
    obtain ⟨hz, hI, hO, h0, h1⟩ := st
    obtain ⟨xs, ys, q0, q1, en⟩ := hg
    obtain ⟨us0, rv0, hu0⟩ := Kd.of I q0
    obtain ⟨us1, rv1, hu1⟩ := Kd.of I q1
    have D0 := p.draws (prog := X.prog) (w := X.w) (A := X.A.in1) (i := N) (a := a) (show X.A.in1.handled = none from I.ok.hd hc) (by have := la; intro e; rw [e] at this; exact absurd this (Nat.not_lt.mpr (by simp))) us0.toArray
    have D1 := q.draws (prog := X.prog) (w := X.w) (A := X.A.in1) (i := N + 1) (a := b) (show X.A.in1.handled = none from I.ok.hd hc) (by have := lb; intro e; rw [e] at this; exact absurd this (Nat.not_lt.mpr (by simp))) us1.toArray
    have G := GoesN.zip2 (elts := elts) (x1 := kk) (pos := tpos) (zip_sep2 (N := N) (fp1 := [a]) (fun d hd => by rw [List.mem_singleton.mp hd]; exact la) (fp2 := [b]) (fun d hd => by rw [List.mem_singleton.mp hd]; exact lb)) D0 D1
    have hn : n = min us0.toArray.size us1.toArray.size := by
      have l0 := rv0.length
      have l1 := rv1.length
      simp; omega
    subst hn
    refine G.stops s (fun s1 => Inv X pins σ H s1) E ⟨hz, hI, hO, ⟨h0, hu0⟩, ⟨h1, hu1⟩⟩ fun h' tk keep _ => ?_
    exact I.turnedL (t' := tk) (ch := [N + 4, N + 3, N, N + 1]) keep (fun b' hb' => hf b' (by rcases (show b' = N + 4 ∨ b' = N + 3 ∨ b' = N ∨ b' = N + 1 by simpa using hb') with e | e | e | e <;> (rw [e]; simp)))
  self := fun A n s Q E st h => wpAny_pyIter_zip st.1 h
end
end
section
variable [Wtp] [Tbl]
/-! ## the sources of a loop -/
def seqW (w : Wv) (st : Sto) : Option Sc := match w with
  | .d (.list xs) => some ⟨xs, []⟩
  | .d (.tuple xs) => some ⟨xs, []⟩
  | .r i => match st[i]? with
    | some (.lst xs) => some ⟨xs, [(i, xs)]⟩
    | _ => none
  | _ => none
@[simp] theorem seqW_list (xs : List PyData) (st : Sto) : seqW (.d (.list xs)) st = some ⟨xs, []⟩ := rfl
@[simp] theorem seqW_tuple (xs : List PyData) (st : Sto) : seqW (.d (.tuple xs)) st = some ⟨xs, []⟩ := rfl
def sgnD (c : Nat) : PyData := .str ⟨#[c]⟩
def cSeq (c : En → Sto → Rs Wv) : En → Sto → Rs Sc := fun env st => (c env st).bind fun w st1 => match w with
  | .d (.str x) => .ok ⟨x.cps.toList.map sgnD, []⟩ st1
  | .d (.dict es) => .ok ⟨es.map (·.1), []⟩ st1
  | w => match seqW w st1 with
    | some sc => .ok sc st1
    | none => .no
def pairD (x y : PyData) : PyData := .tuple [x, y]
def zip3 : List PyData → List PyData → List PyData → List PyData
  | x :: xs, y :: ys, z :: zs => .tuple [x, y, z] :: zip3 xs ys zs
  | _, _, _ => []
def cZip2 (cs : En → Sto → Rs (List Wv)) : En → Sto → Rs Sc := fun env st => (cs env st).bind fun ws st1 => match ws with
  | [u, v] => match seqW u st1, seqW v st1 with
    | some a, some b => .ok ⟨List.zipWith pairD a.xs b.xs, a.lv ++ b.lv⟩ st1
    | _, _ => .no
  | _ => .no
def cZip3 (cs : En → Sto → Rs (List Wv)) : En → Sto → Rs Sc := fun env st => (cs env st).bind fun ws st1 => match ws with
  | [u, v, w] => match seqW u st1, seqW v st1, seqW w st1 with
    | some a, some b, some c => .ok ⟨zip3 a.xs b.xs c.xs, (a.lv ++ b.lv) ++ c.lv⟩ st1
    | _, _, _ => .no
  | _ => .no
def enumD (xs : List PyData) : List PyData := xs.mapIdx fun i x => .tuple [.int (i : Nat), x]
def cEnum (cs : En → Sto → Rs (List Wv)) : En → Sto → Rs Sc := fun env st => (cs env st).bind fun ws st1 => match ws with
  | [u] => match seqW u st1 with
    | some a => .ok ⟨enumD a.xs, a.lv⟩ st1
    | _ => .no
  | _ => .no
def rangeD (lo : Int) (n : Nat) : List PyData := (List.range n).map fun i => .int (lo + (i : Nat))
def downD (lo : Int) (n : Nat) : List PyData := (List.range n).map fun i => .int (lo - (i : Nat))
def rgOk (i : Int) : Bool := decide (-(2 ^ 62) ≤ i) && decide (i < 2 ^ 62)
def cRg1 (cs : En → Sto → Rs (List Wv)) : En → Sto → Rs Sc := fun env st => (cs env st).bind fun ws st1 => match ws with
  | [.d (.int j)] => if rgOk j then .ok ⟨rangeD 0 j.toNat, []⟩ st1 else .no
  | _ => .no
def cRg2 (cs : En → Sto → Rs (List Wv)) : En → Sto → Rs Sc := fun env st => (cs env st).bind fun ws st1 => match ws with
  | [.d (.int i), .d (.int j)] => if rgOk i && rgOk j then .ok ⟨rangeD i (j - i).toNat, []⟩ st1 else .no
  | _ => .no
def cRgD (cs : En → Sto → Rs (List Wv)) : En → Sto → Rs Sc := fun env st => (cs env st).bind fun ws st1 => match ws with
  | [.d (.int i), .d (.int j), .d (.int (-1))] => if rgOk i && rgOk j then .ok ⟨downD i (i - j).toNat, []⟩ st1 else .no
  | _ => .no
/-- what stands at a stays -/
structure HoldsAt (K : Frg) (m : Mp) (n : Nat) (H : Hp) (sc : Sc) (q : Kd) (a : Addr) : Prop where
  at' : ∀ H2 m2 st2, Fol m n H m2 st2.length H2 → Sim K H2 m2 st2 → lvOk sc.lv st2 → ∃ us, q.sq K H2 a us ∧ RpA K H2 (Off m2 st2.length) us sc.xs
section
variable {K : Frg} {m : Mp} {H : Hp} {st : Sto} {n : Nat}
theorem seqW_at {v : V} {w : Wv} {sc : Sc} (S : Sim K H m st) (r : RW K H m st.length v w) (e : seqW w st = some sc) : ∃ a q, v = .ref a ∧ HoldsAt K m st.length H sc q a := by
  unfold seqW at e
  split at e
  · cases e
    cases r with
    | lst h1 h2 => exact ⟨_, .l, rfl, ⟨fun H2 m2 st2 f S2 _ => ⟨_, (f.kp.ls h1).sq, h2.mv f.kp⟩⟩⟩
  · cases e
    cases r with
    | tup h1 h2 => exact ⟨_, .t, rfl, ⟨fun H2 m2 st2 f S2 _ => ⟨_, f.kp.sqt h1.sq, h2.mv f.kp⟩⟩⟩
  · split at e
    · rename_i i _ xs e1
      cases e
      refine ⟨m.ix i, .l, r.2, ⟨fun H2 m2 st2 f S2 l => ?_⟩⟩
      rw [lvOk_one] at l
      obtain ⟨us, h1, h2⟩ := S2.ob i _ l
      rw [f.old i r.1] at h1
      exact ⟨us, .inl (.inl h1), h2⟩
    · cases e
  · cases e
theorem isit_l {sc : Sc} {a : Addr} (h : HoldsAt K m n H sc .l a) : IsIt K (Itl K a) m n H sc := by
  refine ⟨fun i H2 m2 st2 f S l hi => ?_, fun H2 m2 st2 f S l => ?_, fun i H2 m2 st2 v H3 f S l hi y => ?_⟩
  · obtain ⟨us, q, r⟩ := h.at' H2 m2 st2 f S l
    obtain ⟨v, hv, _⟩ := r.get (List.getElem?_eq_getElem hi)
    exact ⟨us, v, q, hv⟩
  · obtain ⟨us, q, r⟩ := h.at' H2 m2 st2 f S l
    exact ⟨us, q, Nat.le_of_eq r.len⟩
  · obtain ⟨us, q, r⟩ := h.at' H2 m2 st2 f S l
    obtain ⟨rfl, y⟩ := y
    obtain ⟨v', hv, rv⟩ := r.get (List.getElem?_eq_getElem hi)
    have := y us q
    rw [hv] at this
    cases this
    exact ⟨fun _ _ h => h, _, List.getElem?_eq_getElem hi, rv⟩
theorem isit_t {sc : Sc} {a : Addr} (h : HoldsAt K m n H sc .t a) : IsIt K (Itt K a) m n H sc := by
  refine ⟨fun i H2 m2 st2 f S l hi => ?_, fun H2 m2 st2 f S l => ?_, fun i H2 m2 st2 v H3 f S l hi y => ?_⟩
  · obtain ⟨us, q, r⟩ := h.at' H2 m2 st2 f S l
    obtain ⟨v, hv, _⟩ := r.get (List.getElem?_eq_getElem hi)
    exact ⟨us, v, q, hv⟩
  · obtain ⟨us, q, r⟩ := h.at' H2 m2 st2 f S l
    exact ⟨us, q, Nat.le_of_eq r.len⟩
  · obtain ⟨us, q, r⟩ := h.at' H2 m2 st2 f S l
    obtain ⟨rfl, y⟩ := y
    obtain ⟨v', hv, rv⟩ := r.get (List.getElem?_eq_getElem hi)
    have := y us q
    rw [hv] at this
    cases this
    exact ⟨fun _ _ h => h, _, List.getElem?_eq_getElem hi, rv⟩
theorem isit_s {x : Str} : IsIt K (Its x) m n H ⟨x.cps.toList.map sgnD, []⟩ := by
  refine ⟨fun i H2 m2 st2 f S l hi => by show i < x.cps.size; simpa using hi, fun H2 m2 st2 f S l => by show x.cps.size ≤ _; simp, fun i H2 m2 st2 v H3 f S l hi y => ?_⟩
  obtain ⟨rfl, c, hc, rfl⟩ := y
  exact ⟨fun _ _ h => h, sgnD c, by simp [hc], .str _⟩
/-! ### a dict's keys -/
theorem rp_key {Z : Addr → Prop} {c : PyData} {k : Key} (h : keyD c = some k) : Rp K H Z (kV k) c := by
  cases c <;> first | (cases h; first | exact .int _ | exact .str _) | cases h
theorem rp_keys {Z : Addr → Prop} : ∀ {ds : List PyData} {ks : List Key}, keysD ds = some ks → RpA K H Z (ks.map kV) ds
  | [], _, e => by cases e; exact .nil
  | d :: ds, _, e => by
    unfold keysD at e
    split at e
    · rename_i k0 ks e1 e2
      cases e
      exact .cons (rp_key e1) (rp_keys e2)
    · cases e
theorem RpK.at' {Z : Addr → Prop} : ∀ {kvs : List (Key × V)} {es : List (PyData × PyData)} {i : Nat} {k : Key} {v : V}, RpK K H Z kvs es → kvs[i]? = some (k, v) → ∃ c d, es[i]? = some (c, d) ∧ keyD c = some k ∧ Rp K H Z v d
  | _, _, _, _, _, .nil, e => by simp at e
  | _, _, 0, _, _, .cons h0 h1 _, e => by simp at e; obtain ⟨rfl, rfl⟩ := e; exact ⟨_, _, rfl, h0, h1⟩
  | _, _, i + 1, _, _, .cons _ _ h2, e => by simpa using RpK.at' h2 (i := i) (by simpa using e)
theorem RpT.at' {Z : Addr → Prop} : ∀ {kvs : List (List Key × V)} {es : List (PyData × PyData)} {i : Nat} {k : List Key} {v : V}, RpT K H Z kvs es → kvs[i]? = some (k, v) → ∃ c d, es[i]? = some (c, d) ∧ tkD c = some k ∧ Rp K H Z v d
  | _, _, _, _, _, .nil, e => by simp at e
  | _, _, 0, _, _, .cons h0 h1 _, e => by simp at e; obtain ⟨rfl, rfl⟩ := e; exact ⟨_, _, rfl, h0, h1⟩
  | _, _, i + 1, _, _, .cons _ _ h2, e => by simpa using RpT.at' h2 (i := i) (by simpa using e)
theorem isit_k {a : Addr} {o : Obj} {kvs : List (Key × V)} {es : List (PyData × PyData)} (ha : H a = some (.frz o (.dK kvs))) {Z : Addr → Prop} (h : RpK K H Z kvs es) : IsIt K (Itk a o kvs) m n H ⟨es.map (·.1), []⟩ := by
  have hl : kvs.length = es.length := h.len
  refine ⟨fun i H2 m2 st2 f S l hi => ⟨f.frz _ _ _ ha, by simpa [hl] using hi⟩, fun H2 m2 st2 f S l => ⟨f.frz _ _ _ ha, by simp [hl]⟩, fun i H2 m2 st2 v H3 f S l hi y => ?_⟩
  obtain ⟨rfl, k, v', e, rfl⟩ := y
  obtain ⟨c, d, e1, e2, _⟩ := h.at' e
  exact ⟨fun _ _ h => h, c, by simp [e1], rp_key e2⟩
theorem isit_kt {a : Addr} {o : Obj} {kvs : List (List Key × V)} {es : List (PyData × PyData)} (ha : H a = some (.frz o (.dT kvs))) {Z : Addr → Prop} (h : RpT K H Z kvs es) : IsIt K (Itkt a o kvs) m n H ⟨es.map (·.1), []⟩ := by
  have hl : kvs.length = es.length := h.len
  refine ⟨fun i H2 m2 st2 f S l hi => ⟨f.frz _ _ _ ha, by simpa [hl] using hi⟩, fun H2 m2 st2 f S l => ⟨f.frz _ _ _ ha, by simp [hl]⟩, fun i H2 m2 st2 v H3 f S l hi y => ?_⟩
  obtain ⟨rfl, k, v', q, e, rfl, hq⟩ := y
  obtain ⟨c, d, e1, e2, _⟩ := h.at' e
  refine ⟨fun _ _ h => h, c, by simp [e1], ?_⟩
  cases c with
  | tuple ds => exact .tup (.inl hq) (rp_keys e2)
  | _ => cases e2
theorem isit_r {lo : Int} {c : Nat} : IsIt K (Itr lo c) m n H ⟨rangeD lo c, []⟩ := by
  refine ⟨fun i H2 m2 st2 f S l hi => by show i < c; simpa [rangeD] using hi, fun H2 m2 st2 f S l => by show c ≤ _; simp [rangeD], fun i H2 m2 st2 v H3 f S l hi y => ?_⟩
  obtain ⟨rfl, rfl⟩ := y
  exact ⟨fun _ _ h => h, .int (lo + (i : Nat)), by
    have hi : i < c := by simpa [rangeD] using hi
    simp [rangeD, hi], .int _⟩
theorem isit_e {sc : Sc} {a : Addr} {q : Kd} (h : HoldsAt K m n H sc q a) : IsIt K (JE K q a) m n H ⟨enumD sc.xs, sc.lv⟩ := by
  have hl : (enumD sc.xs).length = sc.xs.length := by simp [enumD]
  refine ⟨fun i H2 m2 st2 f S l hi => ?_, fun H2 m2 st2 f S l => ?_, fun i H2 m2 st2 v H3 f S l hi y => ?_⟩
  · obtain ⟨us, q, r⟩ := h.at' H2 m2 st2 f S l
    obtain ⟨v, hv, _⟩ := r.get (List.getElem?_eq_getElem (show i < sc.xs.length from hl ▸ hi))
    exact ⟨us, v, q, hv⟩
  · obtain ⟨us, q, r⟩ := h.at' H2 m2 st2 f S l
    exact ⟨us, q, hl.trans r.len.symm⟩
  · obtain ⟨us, q, r⟩ := h.at' H2 m2 st2 f S l
    have hi : i < sc.xs.length := hl ▸ hi
    obtain ⟨T, x, rfl, hn, rfl, y⟩ := y
    obtain ⟨v', hv, rv⟩ := r.get (List.getElem?_eq_getElem hi)
    have := y us q
    rw [hv] at this
    cases this
    have g := grow_upd (o := .tup [V.int (i : Nat), x]) hn
    refine ⟨g, .tuple [.int (i : Nat), sc.xs[i]], by simp [enumD, hi], .tup (.inl upd_same) (.cons (.int _) (.cons (rv.mv (Fol.same (m := m2) (n := st2.length) g).kp) .nil))⟩
theorem isit_z {sc sd : Sc} {a b : Addr} {p q : Kd} (h : HoldsAt K m n H sc p a) (h' : HoldsAt K m n H sd q b) : IsIt K (JZ K p q a b) m n H ⟨List.zipWith pairD sc.xs sd.xs, sc.lv ++ sd.lv⟩ := by
  have hl : (List.zipWith pairD sc.xs sd.xs).length = min sc.xs.length sd.xs.length := List.length_zipWith
  refine ⟨fun i H2 m2 st2 f S l hi => ?_, fun H2 m2 st2 f S l => ?_, fun i H2 m2 st2 v H3 f S l hi y => ?_⟩
  · rw [show lvOk _ st2 = _ from lvOk_app _ _ _] at l
    obtain ⟨us, q, r⟩ := h.at' H2 m2 st2 f S l.1
    obtain ⟨us', q', r'⟩ := h'.at' H2 m2 st2 f S l.2
    have hi : i < min sc.xs.length sd.xs.length := hl ▸ hi
    obtain ⟨v, hv, _⟩ := r.get (List.getElem?_eq_getElem (show i < sc.xs.length by omega))
    obtain ⟨v', hv', _⟩ := r'.get (List.getElem?_eq_getElem (show i < sd.xs.length by omega))
    exact ⟨us, us', v, v', q, q', hv, hv'⟩
  · rw [show lvOk _ st2 = _ from lvOk_app _ _ _] at l
    obtain ⟨us, q, r⟩ := h.at' H2 m2 st2 f S l.1
    obtain ⟨us', q', r'⟩ := h'.at' H2 m2 st2 f S l.2
    exact ⟨us, us', q, q', by rw [r.len, r'.len]; exact hl⟩
  · rw [show lvOk _ st2 = _ from lvOk_app _ _ _] at l
    obtain ⟨us, q, r⟩ := h.at' H2 m2 st2 f S l.1
    obtain ⟨us', q', r'⟩ := h'.at' H2 m2 st2 f S l.2
    have hi : i < min sc.xs.length sd.xs.length := hl ▸ hi
    have i1 : i < sc.xs.length := by omega
    have i2 : i < sd.xs.length := by omega
    obtain ⟨T, x, x', rfl, hn, rfl, y, y'⟩ := y
    obtain ⟨v, hv, rv⟩ := r.get (List.getElem?_eq_getElem i1)
    obtain ⟨v', hv', rv'⟩ := r'.get (List.getElem?_eq_getElem i2)
    have e := y us q
    rw [hv] at e
    cases e
    have e := y' us' q'
    rw [hv'] at e
    cases e
    have g := grow_upd (o := .tup [x, x']) hn
    have kp := (Fol.same (m := m2) (n := st2.length) g).kp (K := K)
    exact ⟨g, pairD sc.xs[i] sd.xs[i], by simp [List.getElem?_zipWith, i1, i2], .tup (.inl upd_same) (.cons (rv.mv kp) (.cons (rv'.mv kp) .nil))⟩
end
/-! ### the rules -/
section
variable {M : Md} {X : Cx} {B : Tb} {k : Nat} {pins : List (Addr × Obj)} {σ : L2.St} {H : Hp} {s : Shared} {m : Mp} {env : En} {st : Sto} {W : WX} {pos p : Pos} {tg : Expr}
theorem PI.imp {e : Expr} {t t' : TI} (h : PI X tg e t) (q : ∀ σ H R, t' σ H R → t σ H R) : PI X tg e t' := ⟨fun pins s σ H R I x => h.run pins s σ H R I (q σ H R x)⟩
theorem di_seq {e : Expr} {ce : En → Sto → Rs Wv} (he : DE X e ce) : DI X tg e (cSeq ce) := by
  refine ⟨fun W tk => ⟨fun pins s σ H R I ⟨m, env, st, S, Re, hp⟩ => ?_⟩⟩
  unfold cSeq at hp
  rw [Rs.post_bind] at hp
  cases ec : ce env st with
  | no => rw [ec] at hp; exact hp.elim
  | ex x st1 =>
    rw [ec] at hp
    exact (pi_list (he.pe W tk)).run pins s σ H R I ⟨m, env, st, S, Re, by rw [ec]; exact hp⟩
  | ok w st1 =>
    rw [ec] at hp
    simp only [Rs.post_ok] at hp
    split at hp
    · rename_i x
      refine (pi_str (he.pe W tk)).run pins s σ H R I ⟨m, env, st, S, Re, ?_⟩
      rw [ec]
      intro v H1 m1 f1 S1 r1
      cases r1
      exact ⟨x, rfl, hp _ H1 m1 f1 S1 isit_s⟩
    · rename_i es
      refine (pi_keys (he.pe W tk)).run pins s σ H R I ⟨m, env, st, S, Re, ?_⟩
      rw [ec]
      intro v H1 m1 f1 S1 r1
      cases r1 with
      | dic h1 h2 => exact ⟨_, _, rfl, .inl ⟨_, h1, hp _ H1 m1 f1 S1 (isit_k h1 h2)⟩⟩
      | dit h1 h2 => exact ⟨_, _, rfl, .inr ⟨_, h1, hp _ H1 m1 f1 S1 (isit_kt h1 h2)⟩⟩
    · split at hp
      · rename_i sc esc
        have key : ∀ v H1 m1, Fol m st.length H m1 st1.length H1 → Sim X.K H1 m1 st1 → RW X.K H1 m1 st1.length v w → ∃ a q, v = .ref a ∧ HoldsAt X.K m1 st1.length H1 sc q a := fun v H1 m1 f1 S1 r1 => seqW_at S1 r1 esc
        by_cases hq : ∃ xs, w = .d (.tuple xs)
        · obtain ⟨xs, rfl⟩ := hq
          cases esc
          refine (pi_tup (he.pe W tk)).run pins s σ H R I ⟨m, env, st, S, Re, ?_⟩
          rw [ec]
          intro v H1 m1 f1 S1 r1
          cases r1 with
          | tup h1 h2 => exact ⟨_, rfl, ⟨_, h1.sq⟩, hp _ H1 m1 f1 S1 (isit_t ⟨fun H2 m2 st2 f S2 _ => ⟨_, f.kp.sqt h1.sq, h2.mv f.kp⟩⟩)⟩
        · refine (pi_list (he.pe W tk)).run pins s σ H R I ⟨m, env, st, S, Re, ?_⟩
          rw [ec]
          intro v H1 m1 f1 S1 r1
          unfold seqW at esc
          split at esc
          · cases esc
            cases r1 with
            | lst h1 h2 => exact ⟨_, rfl, ⟨_, h1.sq⟩, hp _ H1 m1 f1 S1 (isit_l ⟨fun H2 m2 st2 f S2 _ => ⟨_, (f.kp.ls h1).sq, h2.mv f.kp⟩⟩)⟩
          · exact absurd ⟨_, rfl⟩ hq
          · split at esc
            · rename_i i _ _ _ xs e1
              cases esc
              obtain ⟨us, h1, h2⟩ := S1.ob i _ e1
              refine ⟨m1.ix i, r1.2, ⟨us, .inl (.inl h1)⟩, hp _ H1 m1 f1 S1 (isit_l ⟨fun H2 m2 st2 f S2 l => ?_⟩)⟩
              rw [lvOk_one] at l
              obtain ⟨us2, g1, g2⟩ := S2.ob i _ l
              rw [f.old i r1.1] at g1
              exact ⟨us2, .inl (.inl g1), g2⟩
            · cases esc
          · cases esc
      · exact hp.elim
theorem rws1 {K : Frg} {n : Nat} {vs : List V} {w : Wv} (h : RWs K H m n vs [w]) : ∃ v, vs = [v] ∧ RW K H m n v w := by
  cases h with | cons h1 h2 => cases h2; exact ⟨_, rfl, h1⟩
theorem rws2 {K : Frg} {n : Nat} {vs : List V} {w w' : Wv} (h : RWs K H m n vs [w, w']) : ∃ v v', vs = [v, v'] ∧ RW K H m n v w ∧ RW K H m n v' w' := by
  cases h with | cons h1 h2 => obtain ⟨v', rfl, h3⟩ := rws1 h2; exact ⟨_, v', rfl, h1, h3⟩
theorem rgOk_iff {i : Int} (h : rgOk i = true) : -(2 ^ 62) ≤ i ∧ i < 2 ^ 62 := by
  unfold rgOk at h
  simpa using h
theorem di_range1 (c : Cxt M X B k) {a : Expr} {cs : En → Sto → Rs (List Wv)} (j : Nat) (hg : B.gs[j]? = some ("range" : Str)) (hm : M.mg "range" = none) (ha : DA X [a] cs) (hs : starEach [a] X.env = [(false, eval a X.env)] := by rfl) : DI X tg (.Call (.Name "range" p) [a] [] pos) (cRg1 cs) := by
  refine ⟨fun W tk => PI.imp (pi_range1 (c.gl j _ hg) (by rw [c.mg]; exact hm) (ha.pa W tk) hs) fun σ H R ⟨m, env, st, S, Re, hp⟩ => ?_⟩
  unfold cRg1 at hp
  rw [Rs.post_bind] at hp
  refine ⟨m, env, st, S, Re, Rs.post_mono hp (fun ws st1 q vs H1 m1 f1 S1 r1 => ?_) fun _ _ q => q⟩
  split at q
  · rename_i i
    split at q
    · rename_i hi
      obtain ⟨h1, h2⟩ := rgOk_iff hi
      obtain ⟨v, rfl, r⟩ := rws1 r1
      cases r
      exact ⟨i, rfl, h1, h2, q _ H1 m1 f1 S1 isit_r⟩
    · exact q.elim
  · exact q.elim
theorem di_range2 (c : Cxt M X B k) {a b : Expr} {cs : En → Sto → Rs (List Wv)} (j : Nat) (hg : B.gs[j]? = some ("range" : Str)) (hm : M.mg "range" = none) (ha : DA X [a, b] cs)
    (hs : starEach [a, b] X.env = [(false, eval a X.env), (false, eval b X.env)] := by rfl) (hs2 : starEach [b] X.env = [(false, eval b X.env)] := by rfl) : DI X tg (.Call (.Name "range" p) [a, b] [] pos) (cRg2 cs) := by
  refine ⟨fun W tk => PI.imp (pi_range2 (c.gl j _ hg) (by rw [c.mg]; exact hm) (ha.pa W tk) hs hs2) fun σ H R ⟨m, env, st, S, Re, hp⟩ => ?_⟩
  unfold cRg2 at hp
  rw [Rs.post_bind] at hp
  refine ⟨m, env, st, S, Re, Rs.post_mono hp (fun ws st1 q vs H1 m1 f1 S1 r1 => ?_) fun _ _ q => q⟩
  split at q
  · rename_i i j
    split at q
    · rename_i hi
      rw [Bool.and_eq_true] at hi
      obtain ⟨h1, h2⟩ := rgOk_iff hi.1
      obtain ⟨h3, h4⟩ := rgOk_iff hi.2
      obtain ⟨v, v', rfl, r, r'⟩ := rws2 r1
      cases r
      cases r'
      exact ⟨i, j, rfl, ⟨h1, h2, h3, h4⟩, q _ H1 m1 f1 S1 isit_r⟩
    · exact q.elim
  · exact q.elim
end
end
section
variable [Wtp] [Tbl]
theorem args_init2 (obj a : Value) : argsOk "object.__init__" ⟨[obj, a], []⟩ := F.args_object_init_2 obj a
/-- enumerate(v) over whatever iter(v) makes -/
theorem enum_made {v : Value} {o : Obj} {Hh : Heap → Prop} (Bg : Begins v o Hh) :
    Meets (Builtin.«enumerate.__new__» ⟨[.type "enumerate", v], []⟩) (fun _ Rr sh => Hh sh.heap ∧
      Rr (.ok (.ret (.ref (sh.heap.push o).objs.size))) { sh with heap := (sh.heap.push o).push { cls := .type "enumerate", data := .fields #[.none, .bool false, .ref sh.heap.objs.size, rawInt 0, .none, .none] } }) :=
  .of_wp fun prog w A Rr sh hyp => by
    obtain ⟨hp, g, d, tk, os⟩ := sh
    obtain ⟨h1, hyp⟩ := hyp
    have sb := sub_enumerate
    have qi : ∀ {A' : Around} {E' : Value → Shared → Prop} {Q' : Value → Shared → Prop}, Q' (.ref hp.objs.size) ⟨hp.push o, g, d, tk, os⟩ → wpAny (model prog w) A' (pyIter v) Q' E' ⟨hp, g, d, tk, os⟩ :=
      fun z => Bg.iter prog w _ _ ⟨hp, g, d, tk, os⟩ _ h1 z
    wp_walk using qi
    refine wpAny_stack_any fun st => wpAny_pure ?_
    split
    · rename_i c5 _ _ _ _ _
      cases (c5 == Value.type "enumerate") <;> (wp_walk using qi; exact ⟨_, rfl, hyp⟩)
    · wp_walk using qi
      exact ⟨_, rfl, hyp⟩
section
variable {prog : Program} {w : World} {A : Around} {E : Value → Shared → Prop} {s : Shared}
theorem enum_one {v : Value} {o : Obj} {Hh : Heap → Prop} {Q : Value → Shared → Prop} (Bg : Begins v o Hh) (h1 : Hh s.heap)
    (h : ∀ h', IsEnum h' (s.heap.objs.size + 1) s.heap.objs.size 0 .none → h'.get? s.heap.objs.size = some o → (∀ b ob, s.heap.get? b = some ob → h'.get? b = some ob) → Q (.ref (s.heap.objs.size + 1)) { s with heap := h' }) :
    wpAny (model prog w) A (call (.type "enumerate") [v]) Q E s := by
  refine callType_new F.called_enumerate (by decide) (F.typeCall_enumerate_1 _) (F.newCall_enumerate_1 _) (fun obj => args_init2 obj _) F.entry_enumerate_new (enum_made Bg) ⟨h1, ?_⟩
  have sz : (s.heap.push o).objs.size = s.heap.objs.size + 1 := Heap.size_push ..
  have he := Heap.get?_push_size (s.heap.push o) (o := { cls := .type "enumerate", data := .fields #[.none, .bool false, .ref s.heap.objs.size, rawInt 0, .none, .none] }) rfl
  rw [sz] at he
  show _ ∧ _
  rw [sz]
  exact ⟨⟨_, he, rfl⟩, h _ he (Heap.get?_push_of_some _ (Heap.get?_push_size _ Bg.free)) fun b ob x => Heap.get?_push_of_some _ (Heap.get?_push_of_some _ x)⟩
end
section
variable {M : Md} {X : Cx} {B : Tb} {k : Nat} {pins : List (Addr × Obj)} {σ : L2.St} {H : Hp} {s : Shared} {m : Mp} {env : En} {st : Sto} {W : WX} {pos p tpos : Pos} {elts : List Expr} {kk : Nat}
theorem HoldsAt.now {sc : Sc} {q : Kd} {a : Addr} (h : HoldsAt X.K m st.length H sc q a) (S : Sim X.K H m st) (l : lvOk sc.lv st) : ∃ us, q.sq X.K H a us := by
  obtain ⟨us, h1, _⟩ := h.at' H m st .refl S l
  exact ⟨us, h1⟩
theorem seqW_lv {w : Wv} {sc : Sc} (e : seqW w st = some sc) : lvOk sc.lv st := by
  unfold seqW at e
  split at e
  · cases e; simp
  · cases e; simp
  · split at e
    · cases e; rw [lvOk_one]; assumption
    · cases e
  · cases e
theorem here_lt {q : Kd} {a : Addr} {us : Array Value} (h : q.here s.heap a us) : a < s.heap.objs.size := by
  cases q <;> (obtain ⟨o, e, _⟩ := h; exact Heap.lt_size e)
theorem di_enum (c : Cxt M X B k) {e : Expr} {cs : En → Sto → Rs (List Wv)} (j : Nat) (hg : B.gs[j]? = some ("enumerate" : Str)) (hm : M.mg "enumerate" = none) (ha : DA X [e] cs) (hs : starEach [e] X.env = [(false, eval e X.env)] := by rfl) :
    DI X (.Tuple elts kk tpos) (.Call (.Name "enumerate" p) [e] [] pos) (cEnum cs) := by
  refine ⟨fun W tk => ⟨fun pins s σ H R I ⟨m, env, st, S, Re, hp⟩ => ?_⟩⟩
  unfold cEnum at hp
  rw [Rs.post_bind] at hp
  refine Call_ (ld_blt I (c.gl j _ hg) (by rw [c.mg]; exact hm) boot_enumerate (PyProof.Rows.callWith_type1 (ha.go tk I S Re pos (Rs.post_mono hp (fun ws st1 q vs H1 m1 us s1 I1 rv f1 S1 r1 => ?_) fun _ _ q => q)) hs rfl))
  split at q
  · split at q
    · rename_i w sc esc
      obtain ⟨v, rfl, r⟩ := rws1 r1
      obtain ⟨a, kd, rfl, h⟩ := seqW_at S1 r esc
      cases rv with
      | cons rv rn =>
        cases rn
        cases rv
        obtain ⟨xs, hx⟩ := h.now S1 (seqW_lv esc)
        obtain ⟨us, _, hu⟩ := Kd.of I1 hx
        refine enum_one (kd.begins a us.toArray) hu fun h' he hi hk => wpAny_pyIter_enum he ?_
        have I2 : Inv X pins σ H1 { s1 with heap := h' } := I1.kept (t' := s1.toks) hk
        refine ⟨s1.heap.objs.size + 1, [s1.heap.objs.size + 1, s1.heap.objs.size], _, _, H1, rfl, I2, turn_JE kd a _ _ (Nat.succ_ne_self _), ⟨⟨.none, he⟩, Kd.first hi⟩, fun b hb => ?_, q _ H1 m1 f1 S1 (isit_e h)⟩
        have le : s1.heap.objs.size ≤ b := by
          rcases (show b = s1.heap.objs.size + 1 ∨ b = s1.heap.objs.size by simpa using hb) with z | z
          · rw [z]; exact Nat.le_succ _
          · rw [z]; exact Nat.le_refl _
        exact I1.fpOk le (I1.hok.fresh le)
    · exact q.elim
  · exact q.elim
theorem di_zip2 (c : Cxt M X B k) {e e2 : Expr} {cs : En → Sto → Rs (List Wv)} (j : Nat) (hg : B.gs[j]? = some ("zip" : Str)) (hm : M.mg "zip" = none) (ha : DA X [e, e2] cs)
    (hs : starEach [e, e2] X.env = (false, eval e X.env) :: starEach [e2] X.env := by rfl) (hpl : (backTo pos (starEach [e2] X.env)).any (·.1) = false := by rfl) :
    DI X (.Tuple elts kk tpos) (.Call (.Name "zip" p) [e, e2] [] pos) (cZip2 cs) := by
  refine ⟨fun W tk => ⟨fun pins s σ H R I ⟨m, env, st, S, Re, hp⟩ => ?_⟩⟩
  unfold cZip2 at hp
  rw [Rs.post_bind] at hp
  refine Call_ (ld_blt I (c.gl j _ hg) (by rw [c.mg]; exact hm) PyProof.Rows.boot_zip (PyProof.Rows.callWith_type1 (ha.go tk I S Re pos (Rs.post_mono hp (fun ws st1 q vs H1 m1 us s1 I1 rv f1 S1 r1 => ?_) fun _ _ q => q)) hs hpl))
  split at q
  · split at q
    · rename_i sc sd esc esd
      obtain ⟨v, v', rfl, r, r'⟩ := rws2 r1
      obtain ⟨a, kd, rfl, h⟩ := seqW_at S1 r esc
      obtain ⟨b, kd', rfl, h'⟩ := seqW_at S1 r' esd
      cases rv with
      | cons rv rn =>
        cases rn with
        | cons rv' rn =>
          cases rn
          cases rv
          cases rv'
          obtain ⟨xs, hx⟩ := h.now S1 (seqW_lv esc)
          obtain ⟨us, _, hu⟩ := Kd.of I1 hx
          obtain ⟨xs', hx'⟩ := h'.now S1 (seqW_lv esd)
          obtain ⟨us', _, hu'⟩ := Kd.of I1 hx'
          refine zip_begins2 (kd.begins a us.toArray) (kd'.begins b us'.toArray) hu hu' fun h'' hz hT hO i1 i2 _ hk => wpAny_pyIter_zip hz ?_
          have I2 : Inv X pins σ H1 { s1 with heap := h'' } := I1.kept (t' := s1.toks) hk
          refine ⟨s1.heap.objs.size + 4, [s1.heap.objs.size + 4, s1.heap.objs.size + 2, s1.heap.objs.size + 3, s1.heap.objs.size, s1.heap.objs.size + 1], _, _, H1, rfl, I2, turn_JZ kd kd' a b _ (here_lt hu) (here_lt hu'), ⟨hz, hT, ⟨_, _, hO⟩, Kd.first i1, Kd.first i2⟩, fun d hd => ?_, q _ H1 m1 f1 S1 (isit_z h h')⟩
          have le : s1.heap.objs.size ≤ d := by
            rcases (show d = s1.heap.objs.size + 4 ∨ d = s1.heap.objs.size + 2 ∨ d = s1.heap.objs.size + 3 ∨ d = s1.heap.objs.size ∨ d = s1.heap.objs.size + 1 by simpa using hd) with z | z | z | z | z <;> (rw [z]; first | exact Nat.le_add_right _ _ | exact Nat.le_refl _)
          exact I1.fpOk le (I1.hok.fresh le)
    · exact q.elim
  · exact q.elim
/-! ## comprehensions -/
/-- the parts of a comprehension, its names at vs -/
structure LcOk (X : Cx) (elt tg iter : Expr) (ifs : List Expr) (scope : Scope) (own : List (Str × Nat)) (ci : En → Sto → Rs Sc) (g : Wv → En → Option En) (t : En → Sto → Rs Bool) (c : En → Sto → Rs Wv) : Prop where
  hi : DI X tg iter ci
  ok : BlkOk X.N X.env.scope scope own
  S0 : ∃ S0 : List Nat, (∀ i ∈ S0, i ∈ own.map (·.2)) ∧ ∀ (s : Shared) (H : Hp) (C : Addr) (cl : List (Str × Addr)) (fp : List Addr), DG (X.blk s H scope (compEnvC scope cl C X.env) fp) S0 tg g
  ht : ∀ (s : Shared) (H : Hp) (C : Addr) (cl : List (Str × Addr)) (fp : List Addr), DTs (X.blk s H scope (compEnvC scope cl C X.env) fp) ifs t
  he : ∀ (s : Shared) (H : Hp) (C : Addr) (cl : List (Str × Addr)) (fp : List Addr), DE (X.blk s H scope (compEnvC scope cl C X.env) fp) elt c
  hs : ∀ x, foldedSetIterable iter X.env x = pure x
theorem lc_ok (cx : Cxt M X B k) {elt tg iter : Expr} {ifs : List Expr} {scope : Scope} {ci : En → Sto → Rs Sc} {g : Wv → En → Option En} {t : En → Sto → Rs Bool} {c : En → Sto → Rs Wv} (own : List (Str × Nat)) (us ls : List Nat) (gs cs : List Str)
    (hb : blkT B us ls gs cs scope own = true) (hi : DI X tg iter ci) (hS : (ls.all fun i => (own.map (·.2)).contains i) = true)
    (hg : ∀ X' : Cx, Cxt M X' (B.blk us ls gs cs) k → DG X' ls tg g) (ht : ∀ X' : Cx, Cxt M X' (B.blk us ls gs cs) k → DTs X' ifs t)
    (he : ∀ X' : Cx, Cxt M X' (B.blk us ls gs cs) k → DE X' elt c) (hs : ∀ x, foldedSetIterable iter X.env x = pure x := by intro _; rfl) : LcOk X elt tg iter ifs scope own ci g t c :=
  ⟨hi, cx.blkOk hb, ⟨ls, fun i h => by simpa using (List.all_eq_true.mp hS) i h, fun s H C cl fp => hg _ (cx.blk hb s H C cl fp)⟩, fun s H C cl fp => ht _ (cx.blk hb s H C cl fp), fun s H C cl fp => he _ (cx.blk hb s H C cl fp), hs⟩
section
variable {elt tg iter : Expr} {ifs : List Expr} {scope : Scope} {own : List (Str × Nat)} {ci : En → Sto → Rs Sc} {g : Wv → En → Option En} {t : En → Sto → Rs Bool} {c : En → Sto → Rs Wv} {vs : List Nat}
theorem lcOk_tg {S0 : List Nat} (h : ∀ (s : Shared) (H : Hp) (C : Addr) (cl : List (Str × Addr)) (fp : List Addr), DG (X.blk s H scope (compEnvC scope cl C X.env) fp) S0 tg g) :
    ∀ (s : Shared) (H : Hp) (C : Addr) (cl : List (Str × Addr)) (fp : List Addr), PG (X.blk s H scope (compEnvC scope cl C X.env) fp) tg (fun v σ H Q => ∃ m n env w env', RW X.K H m n v w ∧ EnvR X.K H m n env σ ∧ g w env = some env' ∧ ∀ σ', EnvR X.K H m n env' σ' → But S0 σ σ' → Q σ' H) :=
  fun s H C cl fp => (h s H C cl fp).pg
theorem lc_data {Q : VK} {σ : L2.St} {S0 : List Nat} {tgt : TG} (hS : ∀ i ∈ S0, i ∈ vs)
    (htg : ∀ v σ H Q, (∃ m n env w env', RW X.K H m n v w ∧ EnvR X.K H m n env σ ∧ g w env = some env' ∧ ∀ σ', EnvR X.K H m n env' σ' → But S0 σ σ' → Q σ' H) → tgt v σ H Q) (h : tE X W (eLc ci g t c vs) σ H Q) : tLc (tI X W ci) tgt (tT X Wno t) (tE X Wno c) vs σ H Q := by
  obtain ⟨m, env, st, S, R, hp⟩ := h
  unfold eLc at hp
  rw [Rs.post_bind] at hp
  refine lc_tLc hS htg S R (Rs.post_mono hp (fun ys st1 q D H1 m1 xs hD f1 S1 F1 hx r1 => ?_) fun _ _ q => q)
  have kp : Kp X.K H1 (Off m1 st1.length) H1 (Off (m1.done D) st1.length) := ⟨fun _ _ h => h, fun _ _ _ h => h, fun a o _ h z => ⟨h, off_done a z⟩⟩
  exact q _ H1 (m1.done D) f1 (S1.sub rfl fun a z => z.1) (.lst (.inl ⟨hx, fun i hi e => S1.fi i hi (by rw [show m1.ix i = D from e]; exact F1), fun z => z.2 rfl⟩) (r1.mv kp))
theorem de_lc (cx : Cxt M X B k) (h : LcOk X elt tg iter ifs scope own ci g t c) : DE X (.ListComp elt [⟨tg, iter, ifs, 0⟩] scope pos) (eLc ci g t c (own.map (·.2))) := by
  obtain ⟨S0, hS, hg⟩ := h.S0
  exact ⟨fun W tk => PE.imp (pe_lc (wi := tI X W ci) (tt := tT X Wno t) (te := tE X Wno c) cx.calm (by rw [cx.hN]; exact cx.nd) (h.hi.pi W tk) h.ok (lcOk_tg hg) (fun s H C cl fp => (h.ht s H C cl fp).pts Wno takes_no) (fun s H C cl fp => (h.he s H C cl fp).pe Wno takes_no) h.hs) fun σ H Q q => lc_data hS (fun _ _ _ _ z => z) q⟩
/-- name = [..] on one line -/
theorem ds_setlc (cx : Cxt M X B k) (i : Nat) {y : Str} {py spos : Pos} (hi : B.N[i]? = some y) (hl : i ∈ B.ps) (hf : B.fn = true) (h : LcOk X elt tg iter ifs scope own ci g t c) (hln : (py.line == pos.line) = true)
    (hany : (scope.names.any fun (n, k) => n == y && (k == .local || k == .cell)) = false) : DS X (.Assign [.Name y py] (.ListComp elt [⟨tg, iter, ifs, 0⟩] scope pos) spos) (sSet i (eLc ci g t c (own.map (·.2)))) := by
  obtain ⟨S0, hS, hg⟩ := h.S0
  have hyl := cx.pl i hl y hi
  refine ⟨fun W tk => PS.imp (ps_setLc (wi := tI X W ci) (tt := tT X Wno t) (te := tE X Wno c) cx.calm (by rw [cx.hN]; exact cx.nd) (by rw [cx.hN]; exact hi) hyl (sw_true (cx.kind hf) hyl hln hany) (h.hi.pi W tk) h.ok (lcOk_tg hg) (fun s H C cl fp => (h.ht s H C cl fp).pts Wno takes_no) (fun s H C cl fp => (h.he s H C cl fp).pe Wno takes_no) h.hs) fun D σ H ⟨m, env, st, S, R, hp⟩ => ?_⟩
  refine lc_data hS (fun _ _ _ _ z => z) ?_
  exact te_sb (f := fun env w st1 => .nx (env.set i (some w)) st1) S R hp fun w st1 v H1 m1 f1 S1 R1 r1 q => q _ H1 m1 f1 S1 (R1.set i r1)
end
end
end
section
variable [Wtp] [Tbl]
/-! ## a def and its calls -/
/-- what goes out of a def, the store's newer part being dropped -/
def frzW (n : Nat) (st : Sto) (w : Wv) : Option PyData := match w with
  | .d x => some x
  | .r i => if n ≤ i then match st[i]? with
    | some (.lst xs) => some (.list xs)
    | some (.dct es) => some (.dict es)
    | some (.dtt es) => some (.dict es)
    | some (.lkd es) => some (.dict es)
    | some (.lkl xs) => some (.list xs)
    | none => none
    else none
  | .x _ _ _ => none
def frzA (n : Nat) (st : Sto) : List Wv → Option (List PyData)
  | [] => some []
  | w :: r => match frzW n st w, frzA n st r with
    | some x, some xs => some (x :: xs)
    | _, _ => none
def endR (n : Nat) (st : Sto) : Rt → Rs Wv
  | .w (.d x) => .ok (.d x) (st.take n)
  | .w (.x _ _ _) => .no
  | .w (.r i) => if i < n then .ok (.r i) (st.take n) else match st[i]? with
    | some o => .ok (.r n) (st.take n ++ [o])
    | none => .no
  | .f w => match frzW n st w with
    | some x => .ok (.d x) (st.take n)
    | none => .no
  | .ft ws => match frzA n st ws with
    | some xs => .ok (.d (.tuple xs)) (st.take n)
    | none => .no
def endS (n : Nat) : SR → Rs Wv
  | .nx _ st => .ok (.d .none) (st.take n)
  | .rt p st => endR n st p
  | .ex e st => .ex e (st.take n)
  | .no => .no
/-- a def of np parameters and N names, by its body -/
def mkF (np N : Nat) (body : En → Sto → SR) : List Wv → Sto → Rs Wv := fun ws st => if ws.length = np then endS st.length (body (ws.map some ++ List.replicate (N - ws.length) none) st) else .no
structure Fnk (M : Md) (g : Bool) (k : Nat) (f : Addr) (fd : FuncData) (ps : List Str) (mf : List Wv → Sto → Rs Wv) : Prop where
  len : ∀ ws st Q E, (mf ws st).post Q E → ws.length = ps.length
  run : ∀ (A : Around) (outer : List Env) (s : Shared) (H : Hp) (args : Args) (us : List Value) (vs : List V) (ws : List Wv) (m : Mp) (st : Sto) (Q : VK) (E : XK), Room k A → (g = true → A.guards = some []) → Env0 M.P M.w M.K M.mg M.base A outer s H → BindsTo s fd args (ps.zip us) → Vals vs us →
    Sim M.K H m st → RWs M.K H m st.length vs ws →
    (mf ws st).post (fun w st' => ∀ v H' m', Fol m st.length H m' st'.length H' → Sim M.K H' m' st' → RW M.K H' m' st'.length v w → Q v H') (fun e st' => ∀ c d H' m', Fol m st.length H m' st'.length H' → Sim M.K H' m' st' → ExR M.K M.mg H' m' st'.length e c d → E c d H') →
    codeAny (model M.P M.w) A (.call (.ref f) args) (CR (L2.CX M.P M.w) outer M.P M.w H s Q E) s
theorem Fnk.mono {M : Md} {g : Bool} {j k : Nat} {f : Addr} {fd : FuncData} {ps : List Str} {mf : List Wv → Sto → Rs Wv} (F : Fnk M g j f fd ps mf) (h : j ≤ k) : Fnk M g k f fd ps mf :=
  ⟨F.len, fun A outer s H args us vs ws m st Q E hr => F.run A outer s H args us vs ws m st Q E (hr.mono h)⟩
section
variable {K : Frg} {H H' : Hp} {m m' : Mp} {st : Sto} {n n' : Nat}
theorem off_le {a : Addr} (h : n ≤ n') (z : Off m n' a) : Off m n a := ⟨fun i hi => z.1 i (Nat.lt_of_lt_of_le hi h), z.2⟩
theorem Kp.le (h : n ≤ n') : Kp K H (Off m n') H (Off m n) := ⟨fun _ _ q => q, fun _ _ _ q => q, fun a o _ q z => ⟨q, off_le h z⟩⟩
theorem Sim.take (S : Sim K H m st) (h : n ≤ st.length) : Sim K H m (st.take n) := by
  have hl : (st.take n).length = n := by rw [List.length_take]; omega
  refine ⟨fun i o e => ?_, fun i j hi hj => S.inj i j (by omega) (by omega), S.ff, fun i hi => S.fi i (by omega), S.tb⟩
  have hi : i < n := by have := (List.getElem?_eq_some_iff.mp e).1; omega
  rw [List.getElem?_take_of_lt hi] at e
  have q := S.ob i o e
  rw [hl]
  cases o with
  | lst xs => obtain ⟨vs, h1, h2⟩ := q; exact ⟨vs, h1, h2.mv (.le h)⟩
  | dct kvs => obtain ⟨vs, h1, h2⟩ := q; exact ⟨vs, h1, RpK.kp (.le h) _ _ h2⟩
  | dtt kvs => obtain ⟨vs, h1, h2⟩ := q; exact ⟨vs, h1, RpT.kp (.le h) _ _ h2⟩
  | lkd es => exact Rp.mv q (.le h)
  | lkl xs => exact FzL.mv q (.le h)
theorem Fol.back (f : Fol m n H m' n' H') : Fol m n H m' n H' := ⟨f.tup, f.frz, f.rest, f.old, fun i a b => absurd b (by omega), Nat.le_refl _, f.dom, f.eF⟩
/-- dicts at these places are pinned -/
def fzH (H : Hp) (as : List Addr) (os : Addr → Obj) : Hp := fun b => if b ∈ as then (match H b with
  | some (.dK ks) => some (.frz (os b) (.dK ks))
  | some (.dT ks) => some (.frz (os b) (.dT ks))
  | u => u) else H b
theorem fz_nil (H : Hp) (os : Addr → Obj) : fzH H [] os = H := by funext b; unfold fzH; simp
theorem fz_out {H : Hp} {as : List Addr} {os : Addr → Obj} {b : Addr} (h : b ∉ as) : fzH H as os b = H b := if_neg h
theorem fz_dK {H : Hp} {as : List Addr} {os : Addr → Obj} {b : Addr} {ks : List (Key × V)} (hb : b ∈ as) (h : H b = some (.dK ks)) : fzH H as os b = some (.frz (os b) (.dK ks)) := by unfold fzH; rw [if_pos hb, h]
theorem fz_dT {H : Hp} {as : List Addr} {os : Addr → Obj} {b : Addr} {ks : List (List Key × V)} (hb : b ∈ as) (h : H b = some (.dT ks)) : fzH H as os b = some (.frz (os b) (.dT ks)) := by unfold fzH; rw [if_pos hb, h]
theorem fz_same {H : Hp} {as : List Addr} {os : Addr → Obj} {b : Addr} {u : HO} (h : H b = some u) (h1 : ∀ ks, u ≠ .dK ks) (h2 : ∀ ks, u ≠ .dT ks) : fzH H as os b = some u := by
  unfold fzH
  split
  · rw [h]
    split
    · rename_i ks e; exact absurd (Option.some.inj e) (h1 ks)
    · rename_i ks e; exact absurd (Option.some.inj e) (h2 ks)
    · rfl
  · exact h
theorem fz_nn {H : Hp} {as : List Addr} {os : Addr → Obj} {b : Addr} (h : Nn H b) : Nn (fzH H as os) b := by
  obtain ⟨u, e, nt⟩ := h
  by_cases hk : (∃ ks, u = .dK ks) ∨ ∃ ks, u = .dT ks
  · by_cases hb : b ∈ as
    · rcases hk with ⟨ks, rfl⟩ | ⟨ks, rfl⟩
      · exact ⟨_, fz_dK hb e, fun _ z => nomatch z⟩
      · exact ⟨_, fz_dT hb e, fun _ z => nomatch z⟩
    · exact ⟨u, (fz_out hb).trans e, nt⟩
  · exact ⟨u, fz_same e (fun ks z => hk (.inl ⟨ks, z⟩)) (fun ks z => hk (.inr ⟨ks, z⟩)), nt⟩
theorem fz_tabs {T : List (Addr × Str)} {H : Hp} {as : List Addr} {os : Addr → Obj} (t : LamX.Tabs T H) : LamX.Tabs T (fzH H as os) := fun p hp => by
  obtain ⟨ps, h1, h2, h3⟩ := t p hp
  refine ⟨ps, fz_same h1 (fun _ z => nomatch z) (fun _ z => nomatch z), h2, fun pos cv hc => ?_⟩
  obtain ⟨c, e, hq⟩ := h3 pos cv hc
  exact ⟨c, e, fz_same hq (fun _ z => nomatch z) (fun _ z => nomatch z)⟩
theorem fz_kp {H : Hp} {as : List Addr} {os : Addr → Obj} {Z Z' : Addr → Prop} (h : ∀ a, Z a → Z' a) : Kp K H Z (fzH H as os) Z' :=
  ⟨fun a xs e => fz_same e (fun _ z => nomatch z) (fun _ z => nomatch z), fun a o u e => fz_same e (fun _ z => nomatch z) (fun _ z => nomatch z), fun a o ⟨xs, ho⟩ e z => ⟨by subst ho; exact fz_same e (fun _ z => nomatch z) (fun _ z => nomatch z), h a z⟩⟩
theorem freezeAll {X : Cx} {pins : List (Addr × Obj)} {σ : L2.St} {s : Shared} (I : Inv X pins σ H s) : ∀ as : List Addr, ∃ os, Inv X pins σ (fzH H as os) s
  | [] => ⟨fun _ => { cls := .none, data := .plain }, by rw [fz_nil]; exact I⟩
  | a :: as => by
    obtain ⟨os, J⟩ := freezeAll I as
    by_cases ha : a ∈ as
    · refine ⟨os, ?_⟩
      rw [show fzH H (a :: as) os = fzH H as os from by
        funext b
        unfold fzH
        by_cases hb : b ∈ as
        · rw [if_pos (List.mem_cons_of_mem _ hb), if_pos hb]
        · rw [if_neg hb, if_neg (fun z => by rcases List.mem_cons.mp z with rfl | z <;> contradiction)]]
      exact J
    · have go : ∀ u, H a = some u → ((∃ ks, u = .dK ks) ∨ ∃ ks, u = .dT ks) → ∃ os, Inv X pins σ (fzH H (a :: as) os) s := fun u e hu => by
        obtain ⟨o, J2⟩ := Inv.freeze J (a := a) (u := u) (by rw [fz_out ha]; exact e) hu
        refine ⟨fun b => if b = a then o else os b, ?_⟩
        rw [show fzH H (a :: as) (fun b => if b = a then o else os b) = upd (fzH H as os) a (.frz o u) from by
          funext b
          by_cases hb : b = a
          · subst hb
            rw [upd_same]
            rcases hu with ⟨ks, rfl⟩ | ⟨ks, rfl⟩
            · rw [fz_dK (List.mem_cons_self ..) e, if_pos rfl]
            · rw [fz_dT (List.mem_cons_self ..) e, if_pos rfl]
          · rw [upd_ne hb]
            unfold fzH
            by_cases hb2 : b ∈ as
            · rw [if_pos (List.mem_cons_of_mem _ hb2), if_pos hb2]
              split <;> simp_all
            · rw [if_neg hb2, if_neg (fun z => by rcases List.mem_cons.mp z with rfl | z <;> contradiction)]]
        exact J2
      by_cases hk : ∃ u, H a = some u ∧ ((∃ ks, u = .dK ks) ∨ ∃ ks, u = .dT ks)
      · obtain ⟨u, e, hu⟩ := hk
        exact go u e hu
      · refine ⟨os, ?_⟩
        rw [show fzH H (a :: as) os = fzH H as os from by
          funext b
          by_cases hb : b = a
          · subst hb
            rw [fz_out ha]
            cases e : H b with
            | none => unfold fzH; rw [if_pos (List.mem_cons_self ..), e]
            | some u => exact fz_same e (fun ks z => hk ⟨u, e, .inl ⟨ks, z⟩⟩) (fun ks z => hk ⟨u, e, .inr ⟨ks, z⟩⟩)
          · unfold fzH
            by_cases hb2 : b ∈ as
            · rw [if_pos (List.mem_cons_of_mem _ hb2), if_pos hb2]
            · rw [if_neg hb2, if_neg (fun z => by rcases List.mem_cons.mp z with rfl | z <;> contradiction)]]
        exact J
def asOf (m : Mp) : Wv → List Addr
  | .r i => [m.ix i]
  | _ => []
/-- only what is newer than n is pinned -/
def AsNew (m : Mp) (n n' : Nat) (as : List Addr) : Prop := ∀ a ∈ as, ∃ i, n ≤ i ∧ i < n' ∧ m.ix i = a
theorem rw_frz {v : V} {w : Wv} {x : PyData} {as : List Addr} {os : Addr → Obj} (S : Sim K H m st) (hn : n ≤ st.length) (r : RW K H m st.length v w) (e : frzW n st w = some x) (ha : ∀ a ∈ asOf m w, a ∈ as) : Rp K (fzH H as os) (Off m n) v x := by
  have kp : Kp K H (Off m st.length) (fzH H as os) (Off m n) := fz_kp fun a z => off_le hn z
  unfold frzW at e
  split at e
  · cases e; exact Rp.mv r kp
  · rename_i i
    split at e
    · rename_i hi
      have hz : Off m n (m.ix i) := ⟨fun j hj q => by have := S.inj j i (by omega) r.1 q; omega, S.fi i r.1⟩
      rw [r.2]
      split at e
      · rename_i xs e1
        cases e
        obtain ⟨vs, h1, h2⟩ := S.ob i _ e1
        exact .lst (.inl ⟨fz_same h1 (fun _ z => nomatch z) (fun _ z => nomatch z), hz⟩) (h2.mv kp)
      · rename_i es e1
        cases e
        obtain ⟨vs, h1, h2⟩ := S.ob i _ e1
        exact .dic (fz_dK (ha _ (by simp [asOf])) h1) (RpK.kp kp _ _ h2)
      · rename_i es e1
        cases e
        obtain ⟨vs, h1, h2⟩ := S.ob i _ e1
        exact .dit (fz_dT (ha _ (by simp [asOf])) h1) (RpT.kp kp _ _ h2)
      · rename_i es e1
        cases e
        exact Rp.mv (show Rp K H (Off m st.length) (.ref (m.ix i)) (.dict es) from S.ob i _ e1) kp
      · rename_i xs e1
        cases e
        exact (FzL.mv (show FzL K H (Off m st.length) (m.ix i) xs from S.ob i _ e1) kp).rp
      · cases e
    · cases e
  · cases e
theorem rws_frz {as : List Addr} {os : Addr → Obj} : ∀ {vs : List V} {ws : List Wv} {xs : List PyData} (S : Sim K H m st) (hn : n ≤ st.length) (r : RWs K H m st.length vs ws) (e : frzA n st ws = some xs) (ha : ∀ a ∈ ws.flatMap (asOf m), a ∈ as), RpA K (fzH H as os) (Off m n) vs xs
  | _, _, _, S, hn, .nil, e, _ => by cases e; exact .nil
  | _, _, _, S, hn, .cons r1 r2, e, ha => by
    unfold frzA at e
    split at e
    · rename_i x xs e1 e2
      cases e
      exact .cons (rw_frz S hn r1 e1 fun a h => ha a (by simp [h])) (rws_frz S hn r2 e2 fun a h => ha a (by simp only [List.flatMap_cons, List.mem_append]; exact .inr h))
    · cases e
def newA (n : Nat) (m : Mp) : Wv → List Addr
  | .r i => if n ≤ i then [m.ix i] else []
  | _ => []
theorem newA_new {n n' : Nat} {w : Wv} (h : ∀ i, w = .r i → i < n') : AsNew m n n' (newA n m w) := fun a ha => by
  cases w with
  | d x => cases ha
  | x a c d => cases ha
  | r i =>
    by_cases hi : n ≤ i
    · simp only [newA, if_pos hi, List.mem_singleton] at ha
      exact ⟨i, hi, h i rfl, ha.symm⟩
    · simp only [newA, if_neg hi] at ha
      cases ha
theorem newA_all {w : Wv} {x : PyData} (e : frzW n st w = some x) : ∀ a ∈ asOf m w, a ∈ newA n m w := fun a ha => by
  cases w with
  | d x => cases ha
  | x a c d => cases ha
  | r i =>
    by_cases hi : n ≤ i
    · simp only [newA, if_pos hi]; exact ha
    · simp only [frzW, if_neg hi] at e
      cases e
theorem newAs_new {n n' : Nat} : ∀ {vs : List V} {ws : List Wv}, RWs K H m n' vs ws → AsNew m n n' (ws.flatMap (newA n m))
  | _, _, .nil => fun a ha => by cases ha
  | _, _, .cons r1 r2 => fun a ha => by
    rw [List.flatMap_cons, List.mem_append] at ha
    rcases ha with ha | ha
    · exact newA_new (fun i e => by subst e; exact r1.1) a ha
    · exact newAs_new r2 a ha
theorem frzA_mem : ∀ {ws : List Wv} {xs : List PyData}, frzA n st ws = some xs → ∀ w ∈ ws, ∃ x, frzW n st w = some x
  | [], _, _, w, hw => by cases hw
  | u :: r, xs, e, w, hw => by
    unfold frzA at e
    split at e
    · rename_i x ys e1 e2
      rcases List.mem_cons.mp hw with rfl | hw
      · exact ⟨x, e1⟩
      · exact frzA_mem e2 w hw
    · cases e
theorem Sim.fz' {as : List Addr} {os : Addr → Obj} (S : Sim K H m st) (h : n ≤ st.length) (hA : ∀ i, i < n → m.ix i ∉ as) : Sim K (fzH H as os) m (st.take n) := by
  have T := S.take h
  have hl : (st.take n).length = n := by rw [List.length_take]; omega
  have kp : Kp K H (Off m (st.take n).length) (fzH H as os) (Off m (st.take n).length) := fz_kp fun a z => z
  refine ⟨fun i o e => ?_, T.inj, fun a z => fz_nn (T.ff a z), T.fi, ?_⟩
  · have hi : i < n := by have := (List.getElem?_eq_some_iff.mp e).1; omega
    have no : m.ix i ∉ as := hA i hi
    have q := T.ob i o e
    cases o with
    | lst xs => obtain ⟨vs, h1, h2⟩ := q; exact ⟨vs, by rw [fz_out no]; exact h1, h2.mv kp⟩
    | dct kvs => obtain ⟨vs, h1, h2⟩ := q; exact ⟨vs, by rw [fz_out no]; exact h1, RpK.kp kp _ _ h2⟩
    | dtt kvs => obtain ⟨vs, h1, h2⟩ := q; exact ⟨vs, by rw [fz_out no]; exact h1, RpT.kp kp _ _ h2⟩
    | lkd es => exact Rp.mv q kp
    | lkl xs => exact FzL.mv q kp
  · exact fz_tabs T.tb
theorem Sim.fz {as : List Addr} {os : Addr → Obj} (S : Sim K H m st) (h : n ≤ st.length) (hA : AsNew m n st.length as) : Sim K (fzH H as os) m (st.take n) := S.fz' h fun i hi z => by
  obtain ⟨j, h1, h2, h3⟩ := hA _ z
  have := S.inj j i h2 (by omega) h3
  omega
theorem fz_one {H : Hp} {p : Addr} {o : Obj} {xs : List (Key × V)} : fzH (upd H p (.dK xs)) [p] (fun _ => o) = upd H p (.frz o (.dK xs)) := by
  funext b
  by_cases hb : b = p
  · subst hb; rw [fz_dK (List.mem_cons_self ..) upd_same, upd_same]
  · rw [fz_out (by simpa using hb), upd_ne hb, upd_ne hb]
theorem Fol.fz {as : List Addr} {os : Addr → Obj} (f : Fol m n H m' n' H') (hA : AsNew m' n n' as) : Fol m n H m' n' (fzH H' as os) := by
  have no : ∀ {a}, Nn H a → a ∉ as := fun {a} h z => by
    obtain ⟨i, h1, h2, h3⟩ := hA _ z
    exact f.new i h1 h2 (h3 ▸ h)
  exact ⟨fun a xs e => fz_same (f.tup a xs e) (fun _ z => nomatch z) (fun _ z => nomatch z), fun a o u e => fz_same (f.frz a o u e) (fun _ z => nomatch z) (fun _ z => nomatch z), fun a o nt e z => by rw [fz_out (no ⟨o, e, nt⟩)]; exact f.rest a o nt e z, f.old, f.new, f.le, fun a h => fz_nn (f.dom a h), f.eF⟩
/-- a newer object becomes the next one -/
theorem Sim.keep1 {i : Nat} {o : Ob} (S : Sim K H m st) (hn : n ≤ i) (e : st[i]? = some o) : Sim K H (mup m n (m.ix i)) (st.take n ++ [o]) := by
  have hi : i < st.length := (List.getElem?_eq_some_iff.mp e).1
  have hl : (st.take n).length = n := by rw [List.length_take]; omega
  have hl2 : (st.take n ++ [o]).length = n + 1 := by simp [hl]
  have hx : ∀ j, j < n → m.ix j ≠ m.ix i := fun j hj q => by have := S.inj j i (by omega) hi q; omega
  have kp : Kp K H (Off m st.length) H (Off (mup m n (m.ix i)) (n + 1)) := ⟨fun _ _ q => q, fun _ _ _ q => q, fun a o _ q z => ⟨q, fun j hj e2 => by
    by_cases q : j < n
    · rw [mup_old q] at e2; exact z.1 j (by omega) e2
    · rw [show j = n by omega, mup_new] at e2; exact z.1 i hi e2
  , z.2⟩⟩
  refine ⟨fun j u e2 => ?_, fun j l hj hk e2 => ?_, S.ff, fun j hj => ?_, S.tb⟩
  · rw [hl2]
    by_cases q : j < n
    · rw [List.getElem?_append_left (by omega), List.getElem?_take_of_lt q] at e2
      have h := S.ob j u e2
      rw [mup_old q]
      cases u with
      | lst xs => obtain ⟨vs, h1, h2⟩ := h; exact ⟨vs, h1, h2.mv kp⟩
      | dct kvs => obtain ⟨vs, h1, h2⟩ := h; exact ⟨vs, h1, RpK.kp kp _ _ h2⟩
      | dtt kvs => obtain ⟨vs, h1, h2⟩ := h; exact ⟨vs, h1, RpT.kp kp _ _ h2⟩
      | lkd es => exact Rp.mv h kp
      | lkl xs => exact FzL.mv h kp
    · have ej : j = n := by have := (List.getElem?_eq_some_iff.mp e2).1; omega
      subst ej
      rw [List.getElem?_append_right (by omega), hl] at e2
      simp at e2
      subst e2
      rw [mup_new]
      have h := S.ob i o e
      cases o with
      | lst xs => obtain ⟨vs, h1, h2⟩ := h; exact ⟨vs, h1, h2.mv kp⟩
      | dct kvs => obtain ⟨vs, h1, h2⟩ := h; exact ⟨vs, h1, RpK.kp kp _ _ h2⟩
      | dtt kvs => obtain ⟨vs, h1, h2⟩ := h; exact ⟨vs, h1, RpT.kp kp _ _ h2⟩
      | lkd es => exact Rp.mv h kp
      | lkl xs => exact FzL.mv h kp
  · rw [hl2] at hj hk
    by_cases q : j < n
    · by_cases q2 : l < n
      · rw [mup_old q, mup_old q2] at e2; exact S.inj j l (by omega) (by omega) e2
      · rw [mup_old q, show l = n by omega, mup_new] at e2; exact absurd e2 (hx j q)
    · by_cases q2 : l < n
      · rw [show j = n by omega, mup_new, mup_old q2] at e2; exact absurd e2.symm (hx l q2)
      · omega
  · rw [hl2] at hj
    by_cases q : j < n
    · rw [mup_old q]; exact S.fi j (by omega)
    · rw [show j = n by omega, mup_new]; exact S.fi i hi
theorem Fol.keep1 {i : Nat} (f : Fol m n H m' n' H') (hi : n ≤ i) (hi2 : i < n') : Fol m n H (mup m' n (m'.ix i)) (n + 1) H' where
  tup := f.tup
  frz := f.frz
  rest := f.rest
  old j hj := by rw [mup_old hj]; exact f.old j hj
  new j h1 h2 := by rw [show j = n by omega, mup_new]; exact f.new i hi hi2
  le := Nat.le_succ n
  dom := f.dom
  eF := f.eF
end
/-- what a scope must tell -/
def fnT (B : Tb) (sc : Scope) : Bool :=
  (B.us.all fun i => match B.N[i]? with | some x => kdV (sc.names.lookup x) | none => true) &&
  ((B.ls.all fun i => match B.N[i]? with | some x => kdL (sc.names.lookup x) | none => true) &&
  ((B.ps.all fun i => match B.N[i]? with | some x => decide (sc.names.lookup x = some .local) | none => true) &&
  ((B.gs.all fun x => kdG (sc.names.lookup x)) && ((B.cs.all fun x => kdC (sc.names.lookup x)) && B.fn))))
theorem kdV_vis {sc : Scope} {x : Str} (h : kdV (sc.names.lookup x) = true) : Vis sc x := by
  unfold kdV at h
  split at h
  · exact .inl (by assumption)
  · exact .inr (.inl (by assumption))
  · exact .inr (.inr (by assumption))
  · cases h
theorem kdL_loc {sc : Scope} {x : Str} (h : kdL (sc.names.lookup x) = true) : Loc sc x := by
  unfold kdL at h
  split at h
  · exact .inl (by assumption)
  · exact .inr (by assumption)
  · cases h
theorem kdC_cap {sc : Scope} {x : Str} (h : kdC (sc.names.lookup x) = true) : sc.names.lookup x = some .cell ∨ sc.names.lookup x = some .free := by
  unfold kdC at h
  split at h
  · exact .inl (by assumption)
  · exact .inr (by assumption)
  · cases h
theorem kdG_gl {sc : Scope} {x : Str} (h : kdG (sc.names.lookup x) = true) : sc.names.lookup x = some .globalImplicit := by
  unfold kdG at h
  split at h
  · assumption
  · cases h
theorem SR.post_end {x : SR} {n : Nat} {Q : Wv → Sto → Prop} {E : Xc → Sto → Prop} (h : (endS n x).post Q E) : x.post (fun _ st => Q (.d .none) (st.take n)) (fun p st => (endR n st p).post Q E) (fun e st => E e (st.take n)) := by
  cases x with
  | nx env st => exact h
  | rt p st => exact h
  | ex e st => exact h
  | no => exact h
/-- a def, by its body -/
theorem fnk_of {M : Md} {B : Tb} {k : Nat} {f : Addr} {name qual : Str} {params : Arguments} {body : List Stmt} {scope : Scope} {dV kV doc pm cdv ct oc : Value} {an od : Option Addr} {osl : Array (Option Value)} {ps : List Str} {cb : En → Sto → SR} {np nN : Nat}
    (hf : M.K.lookup f = some ⟨oc, od, .func (PySem.W.fnOf name qual params body scope dV kV doc pm an cdv ct), osl⟩) (hcode : PySem.W.codeIn M.K cdv qual = true) (SC : FnScope B.N ps scope) (hT : fnT B scope = true) (hnp : ps.length = np) (hnN : B.N.length = nN)
    (hb : ∀ X : Cx, Cxt M X B k → DB X body cb) (hlam : ∀ q, B.lq = some q → (qual ++ ".<locals>.") ++ "<lambda>" = q ∧ LamC M.mg M.base q cdv := by intro _ h; exact nomatch (show (none : Option Str) = some _ from h)) : Fnk M B.gd (k + 1) f (PySem.W.fnOf name qual params body scope dV kV doc pm an cdv ct) ps (mkF np nN cb) := by
  have arity : ∀ ws st Q E, (mkF np nN cb ws st).post Q E → ws.length = ps.length := fun ws st Q E h => by
    unfold mkF at h
    split at h
    · rw [hnp]; assumption
    · exact h.elim
  refine ⟨arity, fun A outer s H args us vs ws m st Q E room guard e0 bound rv S rw0 hp => ?_⟩
  have hwl := arity _ _ _ _ hp
  have hvl : vs.length = ps.length := rw0.len.trans hwl
  have inK : M.K.In s.heap := e0.mod.kin.keeps fun b o e => (e0.bs b o e).1
  have noLim : s.heap.NoLimit := e0.mod.nolimit.keeps fun b o e => (e0.bs b o e).1
  have kinds : ∀ y ∈ ps.zip us, scope.names.lookup y.1 = some .local ∨ (scope.names.lookup y.1 = some .cell ∧ ((cellsFrom (s.heap.objs.size + 1) scope.names []).lookup y.1).isSome = true) := by
    rintro ⟨y, v⟩ hy
    have hy' := SC.par y (List.of_mem_zip hy).1
    exact hy'.imp id fun q => ⟨q, PySem.W.cellsFrom_some _ _ _ (.inl q)⟩
  refine codeAny_call_function room.depth (inK _ _ hf) rfl SC.co SC.gen rfl (PySem.W.codeRec_of inK hcode) (bound _ _ _ _ (wpAny_newFunctionEnv_cells SC.kind kinds fun env henv s1 x => ?_))
  subst henv
  refine ⟨noLim.keeps x.toInCall.keep, codeAny_func ?_⟩
  generalize hX : cxOf (L2.CX M.P M.w) M.P M.w M.K M.mg M.base B.N qual scope f cdv A outer s H E = X
  have hI : Inv X [] (start B.N vs) H s1 := by rw [← hX]; exact inv_start SC room.hd e0 hvl rv x
  unfold fnT at hT
  simp only [Bool.and_eq_true, List.all_eq_true, decide_eq_true_eq] at hT
  obtain ⟨t1, t2, t3, t4, t5, t6⟩ := hT
  have hC : Cxt M X B k := by
    subst hX
    refine ⟨rfl, rfl, rfl, rfl, rfl, rfl, SC.nd, rfl, fun _ => SC.kind, room.deeper _, guard, fun i hi x hx => ?_, fun i hi x hx => ?_, fun i hi x hx => ?_, fun j x hx => kdG_gl (t4 x (List.mem_of_getElem? hx)), fun x hx => kdC_cap (t5 x hx), fun _ => passes_of rfl, hlam, fun _ => ⟨rfl, rfl⟩⟩
    · have q := t1 i hi
      rw [hx] at q
      exact kdV_vis q
    · have q := t2 i hi
      rw [hx] at q
      exact ⟨kdL_loc q, .inl rfl⟩
    · have q := t3 i hi
      rw [hx] at q
      exact of_decide_eq_true q
  have tk : Takes X (fun c d _ H' => E c d H') := by subst hX; exact takes_of rfl rfl rfl rfl
  have hR : EnvR X.K H m st.length (ws.map some ++ List.replicate (nN - ws.length) none) (start B.N vs) := by
    refine ⟨?_, fun i w hw => ?_⟩
    · unfold L2.start; simp [rw0.len, hnN]
    · have hi : i < ws.length := by
        rcases Nat.lt_or_ge i ws.length with z | z
        · exact z
        · rw [List.getElem?_append_right (by simpa using z)] at hw
          have := List.mem_of_getElem? hw
          simp at this
      rw [List.getElem?_append_left (by simpa using hi)] at hw
      have get : ∀ {vs : List V} {ws : List Wv} {i : Nat} {w : Wv}, RWs M.K H m st.length vs ws → ws[i]? = some w → ∃ v, vs[i]? = some v ∧ RW M.K H m st.length v w := by
        intro vs ws i w r
        induction r generalizing i with
        | nil => intro e; simp at e
        | cons r1 _ ih =>
          intro e
          cases i with
          | zero => simp at e; subst e; exact ⟨_, rfl, r1⟩
          | succ i => simpa using ih (by simpa using e)
      obtain ⟨v, hv, r⟩ := get rw0 (i := i) (w := w) (by simpa [hi] using hw)
      refine ⟨v, ?_, by subst hX; exact r⟩
      unfold L2.start
      rw [List.getElem?_append_left (by have := (List.getElem?_eq_some_iff.mp hv).1; simpa using this)]
      simp [hv]
  have hK : X.K = M.K := hC.hK
  have hmg : X.mg = M.mg := hC.mg
  have run := ((hb X hC).pss _ tk).run [] s1 (start B.N vs) H { nx := fun _ H' => Q .non H', rt := fun v H' => ∃ as, ∀ os, Q v (fzH H' as os) } hI
  unfold mkF at hp
  rw [if_pos (hwl.trans hnp)] at hp
  have hp2 := SR.post_end hp
  have fin : ∀ {σ' : L2.St} {H' : Hp} {v : V} {u : Value} {s' : Shared}, Inv X [] σ' H' s' → RelV v u → Q v H' → CE outer M.P M.w H s Q u s' := fun {σ' H' v u s'} J rv q => by
    subst hX
    exact ⟨v, H', J.os, J.bare, J.base, J.hok, rv, q⟩
  have hA : X.A = A.deeper (envOfC qual scope s.heap.objs.size f cdv) := by rw [← hX]; rfl
  have hxe : ∀ e s', X.xe e s' = wpAny (model M.P M.w) (A.deeper (envOfC qual scope s.heap.objs.size f cdv)) (leaving (envOfC qual scope s.heap.objs.size f cdv) e) (fun _ s'' => L2.CX M.P M.w outer H s E e s'') (fun e' s'' => L2.CX M.P M.w outer H s E e' s'') s' := fun e s' => by rw [← hX]; rfl
  have run2 := run ⟨m, _, st, by rw [hK]; exact S, hR, SR.post_mono hp2 (fun env st' q σ' H' m' f S' _ => ?_) (fun p st' q v H' m' f S' r => ?_) fun e st' q c d σ' H' m' f S' r => ?_⟩
  · subst hX
    refine wpAny_mono run2 (fun fl s' hs => ?_) fun e s' hs => hs
    cases fl with
    | ret u => obtain ⟨v, σ', H', J, rv, as, q⟩ := hs; obtain ⟨os, J2⟩ := freezeAll J as; exact fin J2 rv (q os)
    | next => obtain ⟨σ', H', J, q⟩ := hs; exact fin (v := V.non) (u := Value.none) J rfl q
    | brk => obtain ⟨_, _, _, q⟩ := hs; exact q.elim
    | cont => obtain ⟨_, _, _, q⟩ := hs; exact q.elim
  · have tl : (st'.take st.length).length = st.length := by rw [List.length_take]; have := f.le; omega
    rw [hK] at S'
    exact q .non H' m' (by rw [tl]; exact f.back) (S'.take f.le) .non
  · have tl : (st'.take st.length).length = st.length := by rw [List.length_take]; have := f.le; omega
    rw [hK] at S' r
    have plain : Q v H' → ∃ as, ∀ os, Q v (fzH H' as os) := fun z => ⟨[], fun os => by rw [fz_nil]; exact z⟩
    unfold endR at q
    split at q
    · exact plain (q _ H' m' (by rw [tl]; exact f.back) (S'.take f.le) (by rw [tl]; exact Rp.mv r (.le f.le)))
    · exact q.elim
    · rename_i i
      split at q
      · rename_i hi
        exact plain (q _ H' m' (by rw [tl]; exact f.back) (S'.take f.le) (by rw [tl]; exact ⟨hi, r.2⟩))
      · rename_i hi
        split at q
        · rename_i o eo
          have tl2 : (st'.take st.length ++ [o]).length = st.length + 1 := by simp [tl]
          exact plain (q _ H' (mup m' st.length (m'.ix i)) (by rw [tl2]; exact f.keep1 (by omega) r.1) (S'.keep1 (by omega) eo) (by rw [tl2]; exact ⟨Nat.lt_succ_self _, by rw [mup_new]; exact r.2⟩))
        · exact q.elim
    · rename_i w
      split at q
      · rename_i x ex
        have hA : AsNew m' st.length st'.length (newA st.length m' w) := newA_new (fun i e => by subst e; exact r.1)
        exact ⟨newA st.length m' w, fun os => q _ _ m' (by rw [tl]; exact (f.fz hA).back) (S'.fz f.le hA) (by rw [tl]; exact rw_frz S' f.le r ex (newA_all ex))⟩
      · exact q.elim
    · rename_i ws
      split at q
      · rename_i xs ex
        obtain ⟨a, us', rfl, h1, h2⟩ := r
        have hA : AsNew m' st.length st'.length (ws.flatMap (newA st.length m')) := newAs_new h2
        exact ⟨ws.flatMap (newA st.length m'), fun os => q _ _ m' (by rw [tl]; exact (f.fz hA).back) (S'.fz f.le hA) (by rw [tl]; exact .tup (.inl (fz_same h1 (fun _ z => nomatch z) (fun _ z => nomatch z))) (rws_frz S' f.le h2 ex fun a ha => by
          obtain ⟨w, hw, hb⟩ := List.mem_flatMap.mp ha
          obtain ⟨x, ex2⟩ := frzA_mem ex w hw
          exact List.mem_flatMap.mpr ⟨w, hw, newA_all ex2 a hb⟩))⟩
      · exact q.elim
  · have tl : (st'.take st.length).length = st.length := by rw [List.length_take]; have := f.le; omega
    rw [hK] at S' r
    rw [hmg] at r
    refine q c d H' m' (by rw [tl]; exact f.back) (S'.take f.le) ⟨r.cls, ?_⟩
    rw [tl]
    rcases r.fld with z | ⟨dd, h1, fs, h2, h3, h4, h5⟩
    · exact .inl z
    · exact .inr ⟨dd, h1, fs, h2, h3, h4.mv (.le f.le), off_le f.le h5⟩
def eCall (mf : List Wv → Sto → Rs Wv) (cs : En → Sto → Rs (List Wv)) : En → Sto → Rs Wv := fun env st => (cs env st).bind mf
section
variable {M : Md} {X : Cx} {B : Tb} {k : Nat} {f : Addr} {fd : FuncData} {ps : List Str} {mf : List Wv → Sto → Rs Wv} {cs : En → Sto → Rs (List Wv)} {x : Str} {p pos : Pos} {e : Expr} {es : List Expr}
theorem de_call {g : Bool} (c : Cxt M X B k) (F : Fnk M g k f fd ps mf) (j : Nat) (hg : B.gs[j]? = some x) (hm : M.mg x = some (.ref f)) (hk : PySem.W.keepIn M.K (.ref f) = true) (hb : Binds M.K fd ps []) (ha : DA X (e :: es) cs) (hgd : g = true → B.gd = true) (hdb : (x == ("__debug__" : Str)) = false := by decide)
    (he : starEach (e :: es) X.env = (false, eval e X.env) :: starEach es X.env := by rfl) (hpl : (backTo pos (starEach es X.env)).any (·.1) = false := by rfl) : DE X (.Call (.Name x p) (e :: es) [] pos) (eCall mf cs) := by
  obtain ⟨P, w, K, mg, base⟩ := M
  obtain ⟨rfl, rfl, rfl, rfl, rfl⟩ : X.prog = P ∧ X.w = w ∧ X.K = K ∧ X.mg = mg ∧ X.base = base := ⟨c.hP, c.hw, c.hK, c.mg, c.hb⟩
  refine .mk' fun W pins σ H s m env st Q tk I S R hp => ?_
  unfold eCall at hp
  rw [Rs.post_bind] at hp
  refine wpAny_Call_Name_kw (ld_glob I (c.gl j x hg) hm ?_ hdb)
  refine PySem.W.callWith_K (h₀ := X.base) I.ok.mod.kin hk (ha.go tk I S R pos (Rs.post_mono hp (fun ws st1 q vs H1 m1 us s1 I1 rv f1 S1 r1 => ⟨I1.kIn, ?_⟩) fun _ _ q => q)) he hpl
  have hl : us.length = ps.length := by rw [← rv.length, r1.len]; exact F.len _ _ _ _ q
  have bd := hb s1 us I1.kIn (by rw [List.append_nil]; exact hl)
  rw [List.append_nil] at bd
  refine wpAny_call (codeAny_mono (F.run X.A X.stack s1 H1 ⟨us, []⟩ us vs ws m1 st1 (fun v H' => ∀ u s', Inv X pins σ H' s' → RelV v u → Q u s') (WE W σ) c.room (fun z => c.gu (hgd z)) I1.env0 bd rv S1 r1 (Rs.post_mono q (fun w st2 q2 v H2 m2 f2 S2 r2 u s2 I2 rv2 => ?_) fun e st2 q2 c d H2 m2 f2 S2 r2 => ?_)) fun r s2 hq => ?_)
  · exact q2 v H2 m2 u s2 I2 rv2 (f1.trans f2) S2 r2
  · exact q2 c d H2 m2 (f1.trans f2) S2 r2
  · cases r with
    | error e => exact passAt tk σ pins H1 s1 e s2 I1 hq
    | ok fl =>
      cases fl with
      | ret u =>
        obtain ⟨v, H2, I2, rv2, q2⟩ := I1.after hq
        exact q2 u s2 I2 rv2
      | next => exact False.elim hq
      | brk => exact False.elim hq
      | cont => exact False.elim hq
end
end
section
variable [Wtp] [Tbl]
/-! ## the store is written -/
section
variable {K : Frg} {H H' : Hp} {m m' : Mp} {st : Sto} {n n' : Nat}
theorem Kp.wr {i : Nat} {o o' : HO} (hi : i < n) (h : H (m.ix i) = some o) (ho : (∃ xs, o = .lst xs) ∨ (∃ kvs, o = .dK kvs) ∨ ∃ kvs, o = .dT kvs) : Kp K H (Off m n) (upd H (m.ix i) o') (Off m n) := by
  refine ⟨fun a xs e => ?_, fun a q u e => ?_, fun a q _ e z => ⟨?_, z⟩⟩
  · rw [upd_ne]; exact e
    intro q; rw [q, h] at e
    rcases ho with ⟨_, rfl⟩ | ⟨_, rfl⟩ | ⟨_, rfl⟩ <;> cases e
  · rw [upd_ne]; exact e
    intro q; rw [q, h] at e
    rcases ho with ⟨_, rfl⟩ | ⟨_, rfl⟩ | ⟨_, rfl⟩ <;> cases e
  · rw [upd_ne]; exact e
    exact fun q => z.1 i hi q.symm
theorem Fol.wr {i : Nat} {o o' : HO} (hi : i < n) (h : H (m.ix i) = some o) (ho : (∃ xs, o = .lst xs) ∨ (∃ kvs, o = .dK kvs) ∨ ∃ kvs, o = .dT kvs) (nt : NT o' := by exact fun _ z => nomatch z) : Fol m n H m n (upd H (m.ix i) o') := by
  have kp := Kp.wr (K := ([] : Frg)) (o' := o') hi h ho
  refine ⟨kp.tup, kp.frz, fun a u _ e z => ?_, fun _ _ => rfl, fun i a b => absurd b (by omega), Nat.le_refl _, fun a e => ?_, fun _ _ => Iff.rfl⟩
  · rw [upd_ne]; exact e
    exact fun q => z i hi q.symm
  · by_cases q : a = m.ix i
    · rw [q]; exact ⟨_, upd_same, nt⟩
    · obtain ⟨u, e1, e2⟩ := e
      exact ⟨u, by rw [upd_ne q]; exact e1, e2⟩
theorem Sim.wr {i : Nat} {o o' : HO} {ob : Ob} (S : Sim K H m st) (hi : i < st.length) (h : H (m.ix i) = some o) (ho : (∃ xs, o = .lst xs) ∨ (∃ kvs, o = .dK kvs) ∨ ∃ kvs, o = .dT kvs) (hob : ObAt K (upd H (m.ix i) o') m st.length (m.ix i) ob) (nt : NT o' := by exact fun _ z => nomatch z) : Sim K (upd H (m.ix i) o') m (st.set i ob) := by
  have kp := Kp.wr (K := K) (o' := o') hi h ho
  have f := Fol.wr (o' := o') hi h ho nt
  have hl : (st.set i ob).length = st.length := List.length_set
  refine ⟨fun j u e => ?_, fun a b ha hb => S.inj a b (hl ▸ ha) (hl ▸ hb), fun a z => f.dom a (S.ff a z), fun j hj => S.fi j (hl ▸ hj), S.tb.wr h ho⟩
  rw [hl]
  by_cases q : i = j
  · subst q
    rw [List.getElem?_set_self hi] at e
    cases e
    exact hob
  · rw [List.getElem?_set_ne q] at e
    have hj : j < st.length := (List.getElem?_eq_some_iff.mp e).1
    have ne : m.ix j ≠ m.ix i := fun z => q (S.inj j i hj hi z).symm
    have old := S.ob j u e
    cases u with
    | lst xs => obtain ⟨vs, h1, h2⟩ := old; exact ⟨vs, by rw [upd_ne ne]; exact h1, h2.mv kp⟩
    | dct kvs => obtain ⟨vs, h1, h2⟩ := old; exact ⟨vs, by rw [upd_ne ne]; exact h1, RpK.kp kp _ _ h2⟩
    | dtt kvs => obtain ⟨vs, h1, h2⟩ := old; exact ⟨vs, by rw [upd_ne ne]; exact h1, RpT.kp kp _ _ h2⟩
    | lkd es => exact Rp.mv old kp
    | lkl xs => exact FzL.mv old kp
end
/-- a method that writes a list of the store -/
def isLst (st : Sto) (w : Wv) : Bool := match w with
  | .r i => match st[i]? with
    | some (.lst _) => true
    | _ => false
  | _ => false
def eM (g : Wv → List Wv → Sto → Rs Wv) (co : En → Sto → Rs Wv) (cs : En → Sto → Rs (List Wv)) : En → Sto → Rs Wv := fun env st => (co env st).bind fun w st1 => if isLst st1 w = true then (cs env st1).bind fun ws st2 => g w ws st2 else .no
def appW (w : Wv) (ws : List Wv) (st : Sto) : Rs Wv := match w, ws with
  | .r i, [.d y] => match st[i]? with
    | some (.lst xs) => if xs.length < 1000000 then .ok (.d .none) (st.set i (.lst (xs ++ [y]))) else .no
    | _ => .no
  | _, _ => .no
def extW (w : Wv) (ws : List Wv) (st : Sto) : Rs Wv := match w, looks ws st with
  | .r i, some [.list ys] => match st[i]? with
    | some (.lst xs) => if xs.length + ys.length ≤ 1000000 then .ok (.d .none) (st.set i (.lst (xs ++ ys))) else .no
    | _ => .no
  | _, _ => .no
section
variable {M : Md} {X : Cx} {B : Tb} {k : Nat} {pins : List (Addr × Obj)} {σ : L2.St} {H : Hp} {s : Shared} {m : Mp} {env : En} {st : Sto} {W : WX} {pos apos : Pos} {o e : Expr} {es : List Expr} {co ce : En → Sto → Rs Wv} {cs : En → Sto → Rs (List Wv)} {g : Wv → List Wv → Sto → Rs Wv}
theorem slot_at {v : V} {i : Nat} {xs : List PyData} (S : Sim X.K H m st) (r : RW X.K H m st.length v (.r i)) (e : st[i]? = some (.lst xs)) : ∃ us, v = .ref (m.ix i) ∧ H (m.ix i) = some (.lst us) ∧ RpA X.K H (Off m st.length) us xs := by
  obtain ⟨us, h1, h2⟩ := S.ob i _ e
  exact ⟨us, r.2, h1, h2⟩
theorem isLst_ty {v : V} {w : Wv} (S : Sim X.K H m st) (r : RW X.K H m st.length v w) (h : isLst st w = true) : tyV X.K "list" v H := by
  unfold isLst at h
  split at h
  · split at h
    · rename_i i _ xs e
      obtain ⟨us, rfl, h1, _⟩ := slot_at S r e
      exact .inl ⟨rfl, us, .inl (.inl h1)⟩
    · cases h
  · cases h
theorem te_mut {r : V → List V → Hp → VK → Prop} {Q : VK} (h : tE X W (eM g co cs) σ H Q)
    (q : ∀ (m : Mp) (st : Sto) (w : Wv) (ws : List Wv) (st2 : Sto) (v : V) (vs : List V) (H2 : Hp) (m2 : Mp), Fol m st.length H m2 st2.length H2 → Sim X.K H2 m2 st2 → RW X.K H2 m2 st2.length v w → RWs X.K H2 m2 st2.length vs ws → (g w ws st2).post (okE X m st.length H Q) (okX X W m st.length H σ) → r v vs H2 Q) :
    tBM X.K "list" r (tE X W co) (tA X W cs) σ H Q := by
  obtain ⟨m, env, st, S, R, hp⟩ := h
  unfold eM at hp
  rw [Rs.post_bind] at hp
  refine ⟨m, env, st, S, R, Rs.post_mono hp (fun w st1 q1 v H1 m1 f1 S1 r1 => ?_) fun _ _ q => q⟩
  split at q1
  · rename_i hw
    rw [Rs.post_bind] at q1
    exact ⟨isLst_ty S1 r1 hw, m1, env, st1, S1, R.mv f1, Rs.post_mono q1 (fun ws st2 q2 vs H2 m2 f2 S2 r2 => q m st w ws st2 v vs H2 m2 (f1.trans f2) S2 (r1.mv f2) r2 q2) fun _ _ z => okX.tr f1 z⟩
  · exact q1.elim
/-- the end of a write -/
theorem wr_end {H2 : Hp} {m2 : Mp} {st0 st2 : Sto} {i : Nat} {us vs : List V} {ds : List PyData} {x : PyData} {z : V} {Q : VK} {E : Xc → Sto → Prop} (f : Fol m st0.length H m2 st2.length H2) (S : Sim X.K H2 m2 st2) (hi : i < st2.length) (h : H2 (m2.ix i) = some (.lst us))
    (ra : RpA X.K H2 (Off m2 st2.length) vs ds) (rz : Rp X.K H2 (Off m2 st2.length) z x) (q : (Rs.ok (Wv.d x) (st2.set i (.lst ds))).post (okE X m st0.length H Q) E) : Q z (upd H2 (m2.ix i) (.lst vs)) := by
  have f2 : Fol m2 st2.length H2 m2 st2.length (upd H2 (m2.ix i) (.lst vs)) := .wr hi h (.inl ⟨_, rfl⟩)
  have hl : (st2.set i (Ob.lst ds)).length = st2.length := List.length_set
  refine q z _ m2 (by rw [hl]; exact f.trans f2) (S.wr hi h (.inl ⟨_, rfl⟩) ⟨vs, upd_same, ra.mv f2.kp⟩) ?_
  rw [hl]
  exact rz.mv f2.kp
theorem de_append (ho : DE X o co) (ha : DA X [e] cs) (hbase : attributeBase o "append" X.env (eval o X.env) = eval o X.env := by rfl)
    (hfew : ((backTo pos (starEach [e] X.env)).all (fun x => !x.1) && (backToKw pos (keywordEach [] X.env)).all (fun x => x.1.isSome)
      && decide ([e].length + ([] : List Keyword).length + (if ([] : List Keyword).isEmpty then 0 else 1) < 30)) = true := by rfl)
    (hline : (apos.endLine == pos.line) = true := by rfl) (hs : starEach [e] X.env = (false, eval e X.env) :: starEach [] X.env := by rfl) : DE X (.Call (.Attribute o "append" apos) [e] [] pos) (eM appW co cs) := by
  refine ⟨fun W tk => PE.imp (pe_bm PySem.F.plainAttrs_list PySem.F.slot_list_append PySem.F.type_list_append mt_append (ho.pe W tk) (ha.pa W tk) hbase hfew hline hs rfl) fun σ H Q h => te_mut h fun m st w ws st2 v vs H2 m2 f2 S2 r2 rs q => ?_⟩
  unfold appW at q
  split at q
  · split at q
    · rename_i i y _ xs ex
      split at q
      · rename_i hl
        obtain ⟨us, rfl, h1, h2⟩ := slot_at S2 r2 ex
        obtain ⟨u, rfl, ru⟩ := rws1 rs
        have hi : i < st2.length := (List.getElem?_eq_some_iff.mp ex).1
        refine ⟨_, us, u, rfl, rfl, h1, by rw [h2.len]; have := line_lim; omega, ?_⟩
        exact wr_end f2 S2 hi h1 (h2.app (.cons ru .nil)) .non q
      · exact q.elim
    · exact q.elim
  · exact q.elim
def rExtX (K : Frg) : V → List V → Hp → VK → Prop := fun x vs H Q => ∃ l b xs zs, x = .ref l ∧ vs = [.ref b] ∧ H l = some (.lst xs) ∧ LsX K H b zs ∧ xs.length + zs.length ≤ sizeLine ∧ Q .non (upd H l (.lst (xs ++ zs)))
theorem mt_extX : MtR X "list.extend" (rExtX X.K) := by
  rintro pins s σ H x vs v us Q I rx rv ⟨l, b, xs, zs, rfl, rfl, hl, hb, hz, q⟩
  cases rx
  obtain ⟨u, rfl, ru⟩ := rv.one
  cases ru
  obtain ⟨_, a1, n1, r1, l1, e1⟩ := I.lstM hl
  obtain ⟨a2, n2, r2, e2, _, l2⟩ := Inv.lsx I hb
  have sz : a1.toArray.size + a2.toArray.size ≤ sizeLine := by rw [List.size_toArray, List.size_toArray]; omega
  have nl : ¬ (!a1.toArray.isEmpty && Builtin.List.listTooLong (a1.toArray.size + a2.toArray.size)) = true := by
    rw [notLongL sz, Bool.and_false]
    exact Bool.false_ne_true
  refine call_meets PySem.F.slot_list_extend ⟨_, e1, rfl⟩ PySem.F.entry_list_extend (PySem.F.args_list_extend_2 _ _) (AutoSeq1.list_extend_list_list_0 l a1.toArray n1 b a2.toArray n2 nl (by rw [List.size_toArray]; omega) (by omega)) ⟨e1, e2, ?_⟩
  exact ⟨.non, _, I.lset (its' := a1 ++ a2) hl e1 (by simp) (r1.append r2) (by rw [List.length_append]; omega), rfl, q⟩
theorem de_extend (ho : DE X o co) (ha : DA X [e] cs) (hbase : attributeBase o "extend" X.env (eval o X.env) = eval o X.env := by rfl)
    (hfew : ((backTo pos (starEach [e] X.env)).all (fun x => !x.1) && (backToKw pos (keywordEach [] X.env)).all (fun x => x.1.isSome)
      && decide ([e].length + ([] : List Keyword).length + (if ([] : List Keyword).isEmpty then 0 else 1) < 30)) = true := by rfl)
    (hline : (apos.endLine == pos.line) = true := by rfl) (hs : starEach [e] X.env = (false, eval e X.env) :: starEach [] X.env := by rfl) : DE X (.Call (.Attribute o "extend" apos) [e] [] pos) (eM extW co cs) := by
  refine ⟨fun W tk => PE.imp (pe_bm PySem.F.plainAttrs_list PySem.F.slot_list_extend PySem.F.type_list_extend mt_extX (ho.pe W tk) (ha.pa W tk) hbase hfew hline hs rfl) fun σ H Q h => te_mut h fun m st w ws st2 v vs H2 m2 f2 S2 r2 rs q => ?_⟩
  unfold extW at q
  split at q
  · rename_i i ys el
    split at q
    · rename_i xs ex
      split at q
      · rename_i hl
        obtain ⟨us, rfl, h1, h2⟩ := slot_at S2 r2 ex
        obtain ⟨u, rfl, ru⟩ := rts1 (looks_rt S2 rs el)
        obtain ⟨b, zs, rfl, hb, rb⟩ := ru.lst
        have hi : i < st2.length := (List.getElem?_eq_some_iff.mp ex).1
        refine ⟨_, _, us, zs, rfl, rfl, h1, hb, by rw [h2.len, rb.len]; have := line_lim; omega, ?_⟩
        exact wr_end f2 S2 hi h1 (h2.app rb) .non q
      · exact q.elim
    · exact q.elim
  · exact q.elim
/-! ### x[i] = e -/
def dPut (es : List (PyData × PyData)) (k : Key) (c d : PyData) : List (PyData × PyData) := if hasKey es k = true then es.map (fun e => if keyD e.1 = some k then (e.1, d) else e) else es ++ [(c, d)]
theorem rpk_map {Z : Addr → Prop} {H : Hp} {v : V} {d : PyData} {q : Key} (r : Rp X.K H Z v d) : ∀ {ks : List (Key × V)} {es : List (PyData × PyData)}, RpK X.K H Z ks es →
    RpK X.K H Z (ks.map fun kv => if kv.1 = q then (kv.1, v) else kv) (es.map fun e => if keyD e.1 = some q then (e.1, d) else e)
  | [], _, h => by cases h; exact .nil
  | (k0, v0) :: ks, _, h => by
    cases h with
    | cons h0 h1 h2 =>
      simp only [List.map_cons]
      by_cases e : k0 = q
      · rw [if_pos e, if_pos (by rw [h0, e])]
        exact .cons h0 r (rpk_map r h2)
      · rw [if_neg e, if_neg (by rw [h0]; exact fun z => e (Option.some.inj z))]
        exact .cons h0 h1 (rpk_map r h2)
theorem rpk_app {Z : Addr → Prop} {H : Hp} {v : V} {c d : PyData} {q : Key} (e : keyD c = some q) (r : Rp X.K H Z v d) : ∀ {ks : List (Key × V)} {es : List (PyData × PyData)}, RpK X.K H Z ks es → RpK X.K H Z (ks ++ [(q, v)]) (es ++ [(c, d)])
  | [], _, h => by cases h; exact .cons e r .nil
  | (k0, v0) :: ks, _, h => by cases h with | cons h0 h1 h2 => exact .cons h0 h1 (rpk_app e r h2)
theorem rpk_put {Z : Addr → Prop} {H : Hp} {v : V} {c d : PyData} {q : Key} {ks : List (Key × V)} {es : List (PyData × PyData)} (e : keyD c = some q) (r : Rp X.K H Z v d) (h : RpK X.K H Z ks es) : RpK X.K H Z (L2.putK ks q v) (dPut es q c d) := by
  unfold L2.putK dPut
  rw [valV_any, valV_has q h]
  split
  · exact rpk_map r h
  · exact rpk_app e r h
theorem rt_key {Z : Addr → Prop} {H : Hp} {v : V} {c : PyData} {q : Key} (h : RT X.K H Z v c) (e : keyD c = some q) : v = kV q := by
  unfold keyD at e
  split at e
  · cases e; exact h.int
  · cases e; exact h.str
  · cases e
def dPutT (es : List (PyData × PyData)) (k : List Key) (c d : PyData) : List (PyData × PyData) := if (dLookT es k).isSome = true then es.map (fun e => if tkD e.1 = some k then (e.1, d) else e) else es ++ [(c, d)]
theorem rpt_map {Z : Addr → Prop} {H : Hp} {v : V} {d : PyData} {q : List Key} (r : Rp X.K H Z v d) : ∀ {ks : List (List Key × V)} {es : List (PyData × PyData)}, RpT X.K H Z ks es →
    RpT X.K H Z (ks.map fun kv => if kv.1 = q then (kv.1, v) else kv) (es.map fun e => if tkD e.1 = some q then (e.1, d) else e)
  | [], _, h => by cases h; exact .nil
  | (k0, v0) :: ks, _, h => by
    cases h with
    | cons h0 h1 h2 =>
      simp only [List.map_cons]
      by_cases e : k0 = q
      · rw [if_pos e, if_pos (by rw [h0, e])]
        exact .cons h0 r (rpt_map r h2)
      · rw [if_neg e, if_neg (by rw [h0]; exact fun z => e (Option.some.inj z))]
        exact .cons h0 h1 (rpt_map r h2)
theorem rpt_app {Z : Addr → Prop} {H : Hp} {v : V} {c d : PyData} {q : List Key} (e : tkD c = some q) (r : Rp X.K H Z v d) : ∀ {ks : List (List Key × V)} {es : List (PyData × PyData)}, RpT X.K H Z ks es → RpT X.K H Z (ks ++ [(q, v)]) (es ++ [(c, d)])
  | [], _, h => by cases h; exact .cons e r .nil
  | (k0, v0) :: ks, _, h => by cases h with | cons h0 h1 h2 => exact .cons h0 h1 (rpt_app e r h2)
theorem rpt_put {Z : Addr → Prop} {H : Hp} {v : V} {c d : PyData} {q : List Key} {ks : List (List Key × V)} {es : List (PyData × PyData)} (e : tkD c = some q) (r : Rp X.K H Z v d) (h : RpT X.K H Z ks es) : RpT X.K H Z (L2.putK ks q v) (dPutT es q c d) := by
  unfold L2.putK dPutT
  rw [valV_any, valV_hasT q h]
  split
  · exact rpt_map r h
  · exact rpt_app e r h
/-- a key's tuple that the top has not written -/
theorem rt_tkey {Z : Addr → Prop} {H : Hp} {v : V} {c : PyData} {q : List Key} (h : RT X.K H Z v c) (e : tkD c = some q) (hw : c ∉ Wtp.W) : ∃ b, v = .ref b ∧ H b = some (.tup (q.map kV)) := by
  cases c with
  | tuple ds =>
    obtain ⟨b, vs, rfl, h1, h2⟩ := h.tupT
    obtain ⟨b2, e2, h3⟩ := tkD_v h e
    cases e2
    rcases h1 with h1 | h1
    · refine ⟨b, rfl, ?_⟩
      have : ∀ {vs : List V} {ds : List PyData} {k : List Key}, RpA X.K H Z vs ds → keysD ds = some k → vs = k.map kV := by
        intro vs ds
        induction ds generalizing vs with
        | nil => intro k r e; cases e; cases r; rfl
        | cons d ds ih =>
          intro k r e
          unfold keysD at e
          split at e
          · rename_i k0 ks e1 e2
            cases e
            cases r with
            | cons r1 r2 => rw [List.map_cons, ih r2 e2, keyD_v (Z := Z) (.inl r1) e1]
          · cases e
      rw [this h2 (show keysD ds = some q from e)] at h1
      exact h1
    · exact absurd h1.2 hw
  | _ => cases e
open Classical in
noncomputable def setW (w j : Wv) (y : PyData) (st : Sto) : Option Sto := match w with
  | .r n => match st[n]?, look st j with
    | some (.lst xs), some (.int t) => (ixN xs.length t).map fun q => st.set n (.lst (xs.set q y))
    | some (.dct es), some c => match keyD c with
      | some q => if es.length < 1000000 then some (st.set n (.dct (dPut es q c y))) else none
      | none => none
    | some (.dtt es), some c => match tkD c with
      | some q => if es.length < 1000000 ∧ c ∉ Wtp.W then some (st.set n (.dtt (dPutT es q c y))) else none
      | none => none
    | _, _ => none
  | _ => none
noncomputable def sIx (co ci ce : En → Sto → Rs Wv) : En → Sto → SR := fun env st => (ce env st).sb fun x st1 => (co env st1).sb fun w st2 => (ci env st2).sb fun j st3 => match x with
  | .d y => match setW w j y st3 with
    | some st4 => .nx env st4
    | none => .no
  | _ => .no
def rSetB : TSet := fun o i v H Q => rSetL o i v H Q ∨ rSetD o i v H Q
theorem set_both (hu : X.A.units + 1 < cLine) : PSet X rSetB := by
  intro pins s σ H o i v ov iv u Q I ro ri rv h
  rcases h with h | h
  · exact set_list pins s σ H o i v ov iv u Q I ro ri rv h
  · exact set_dict hu pins s σ H o i v ov iv u Q I ro ri rv h
theorem setW_ok {D : Ends} {w j : Wv} {y : PyData} {st0 st4 : Sto} {ov iv v : V} {R : Hp → Prop} (S : Sim X.K H m st) (rw' : RW X.K H m st.length ov w) (rj : RW X.K H m st.length iv j) (ry : Rp X.K H (Off m st.length) v y) (e : setW w j y st = some st4)
    (q : ∀ H', Fol m st.length H m st4.length H' → Sim X.K H' m st4 → R H') : rSetB ov iv v H R := by
  unfold setW at e
  split at e
  · rename_i n
    split at e
    · rename_i xs t e1 e2
      have hi : n < st.length := (List.getElem?_eq_some_iff.mp e1).1
      obtain ⟨us, h1, h2⟩ := S.ob n _ e1
      cases e3 : ixN xs.length t with
      | none => rw [e3] at e; cases e
      | some z =>
        rw [e3] at e
        cases e
        have f2 : Fol m st.length H m st.length (upd H (m.ix n) (.lst (us.set z v))) := .wr hi h1 (.inl ⟨_, rfl⟩)
        have hl : (st.set n (Ob.lst (xs.set z y))).length = st.length := List.length_set
        refine .inl ⟨m.ix n, us, t, z, rw'.2, (look_rt S rj e2).int, h1, by rw [h2.len]; exact e3, ?_⟩
        exact q _ (by rw [hl]; exact f2) (S.wr hi h1 (.inl ⟨_, rfl⟩) ⟨_, upd_same, (RpA.set ry z h2).mv f2.kp⟩)
    · rename_i es c e1 e2
      have hi : n < st.length := (List.getElem?_eq_some_iff.mp e1).1
      obtain ⟨ks, h1, h2⟩ := S.ob n _ e1
      split at e
      · rename_i z ez
        split at e
        · rename_i hlt
          cases e
          have f2 : Fol m st.length H m st.length (upd H (m.ix n) (.dK (L2.putK ks z v))) := .wr hi h1 (.inr (.inl ⟨_, rfl⟩))
          have hl : (st.set n (Ob.dct (dPut es z c y))).length = st.length := List.length_set
          refine .inr ⟨m.ix n, _, rw'.2, by rw [rt_key (look_rt S rj e2) ez]; exact .k h1 (by rw [h2.len]; have := line_lim; omega), ?_⟩
          exact q _ (by rw [hl]; exact f2) (S.wr hi h1 (.inr (.inl ⟨_, rfl⟩)) ⟨_, upd_same, RpK.kp f2.kp _ _ (rpk_put ez ry h2)⟩)
        · cases e
      · cases e
    · rename_i es c e1 e2
      have hi : n < st.length := (List.getElem?_eq_some_iff.mp e1).1
      obtain ⟨ks, h1, h2⟩ := S.ob n _ e1
      split at e
      · rename_i z ez
        split at e
        · rename_i hlt
          cases e
          have f2 : Fol m st.length H m st.length (upd H (m.ix n) (.dT (L2.putK ks z v))) := .wr hi h1 (.inr (.inr ⟨_, rfl⟩))
          have hl : (st.set n (Ob.dtt (dPutT es z c y))).length = st.length := List.length_set
          obtain ⟨b, rfl, hb⟩ := rt_tkey (look_rt S rj e2) ez hlt.2
          refine .inr ⟨m.ix n, _, rw'.2, .t h1 hb (by rw [h2.len]; have := line_lim; omega), ?_⟩
          exact q _ (by rw [hl]; exact f2) (S.wr hi h1 (.inr (.inr ⟨_, rfl⟩)) ⟨_, upd_same, RpT.kp f2.kp _ _ (rpt_put ez ry h2)⟩)
        · cases e
      · cases e
    · cases e
  · cases e
theorem ds_setix (c : Cxt M X B k) {oe ie : Expr} {ci : En → Sto → Rs Wv} {p2 : Pos} (ho : DE X oe co) (hi : DE X ie ci) (he : DE X e ce) (hs : swapsWithSole [.Subscript oe ie p2] e pos.line X.env = pure false := by rfl) (hw : swappedStores [.Subscript oe ie p2] e X.env = pure none := by rfl)
    (h1 : (assignEach [.Subscript oe ie p2] X.env).map (·.2) = [assign (.Subscript oe ie p2) X.env] := by rfl)
    (ha : ∀ v, assign (.Subscript oe ie p2) X.env v = (do
      let ov ← holding [v] (eval oe X.env)
      let iv ← holding [v, ov] (eval ie X.env)
      standAt p2
      holding [v, ov, iv] (setItem ov iv v)
      release [v, ov, iv] []) := by intro _; rfl) : DS X (.Assign [.Subscript oe ie p2] e pos) (sIx co ci ce) := by
  refine ⟨fun W tk => PS.imp (ps_asg (he.pe W tk) (pg_sub (ho.pe W tk) (hi.pe W tk) (set_both (room_eq c.roomH (show 1 ≤ 60 by decide))) ha) hs hw h1) fun D σ H ⟨m, env, st, S, R, hp⟩ => ?_⟩
  unfold sIx at hp
  rw [Rs.post_sb] at hp
  refine ⟨m, env, st, S, R, Rs.post_mono hp (fun x st1 q v H1 m1 f1 S1 r1 => ?_) fun _ _ h => h.x⟩
  rw [Rs.post_sb] at q
  refine ⟨m1, env, st1, S1, R.mv f1, Rs.post_mono q (fun w st2 q ov H2 m2 f2 S2 r2 => ?_) fun _ _ h => (okXs.tr f1 h).x⟩
  rw [Rs.post_sb] at q
  refine ⟨m2, env, st2, S2, (R.mv f1).mv f2, Rs.post_mono q (fun j st3 q iv H3 m3 f3 S3 r3 => ?_) fun _ _ h => (okXs.tr (f1.trans f2) h).x⟩
  split at q
  · split at q
    · rename_i y st4 e4
      exact setW_ok (D := D) (st0 := st) S3 (r2.mv f3) r3 ((r1.mv f2).mv f3) e4 fun H' f4 S4 => q σ H' m3 (((f1.trans f2).trans f3).trans f4) S4 ((((R.mv f1).mv f2).mv f3).mv f4)
    · exact q.elim
  · exact q.elim
/-- x[a, b] = e: the key is a new tuple -/
def setWT (w : Wv) (c y : PyData) (st : Sto) : Option Sto := match w with
  | .r n => match st[n]? with
    | some (.dtt es) => match tkD c with
      | some q => if es.length < 1000000 then some (st.set n (.dtt (dPutT es q c y))) else none
      | none => none
    | _ => none
  | _ => none
def sIxT (co : En → Sto → Rs Wv) (cs : En → Sto → Rs (List Wv)) (ce : En → Sto → Rs Wv) : En → Sto → SR := fun env st => (ce env st).sb fun x st1 => (co env st1).sb fun w st2 => (cs env st2).sb fun js st3 => match x with
  | .d y => match allD js with
    | some ds => if ds.length ≤ 1000000 then (match setWT w (.tuple ds) y st3 with
      | some st4 => .nx env st4
      | none => .no) else .no
    | none => .no
  | _ => .no
end
end
section
variable [Wtp] [Tbl]
/-! ## max, min of two ints; t[::-1]; index in a written tuple -/
def max2F : List PyData → Option PyData
  | [.int i, .int j] => some (.int (if j > i then j else i))
  | _ => none
def min2F : List PyData → Option PyData
  | [.int i, .int j] => some (.int (if j < i then j else i))
  | _ => none
section
variable {X : Cx}
theorem c_max2 (hc : X.calm = true) : CallR X (.builtin "max") (rN X.K max2F) := by
  intro pins s σ H xs us Q I r ⟨Z, ds, e, hz, hd, hf, ho⟩
  unfold max2F at hf
  split at hf
  · cases hf
    obtain ⟨v, w, rfl, h1, h2⟩ := rts2 hd
    cases h1.int
    cases h2.int
    exact call_max2 hc pins s σ H _ us Q I r ⟨_, _, rfl, rout_here ho (.int _)⟩
  · cases hf
theorem c_min2 (hc : X.calm = true) : CallR X (.builtin "min") (rN X.K min2F) := by
  intro pins s σ H xs us Q I r ⟨Z, ds, e, hz, hd, hf, ho⟩
  unfold min2F at hf
  split at hf
  · cases hf
    obtain ⟨v, w, rfl, h1, h2⟩ := rts2 hd
    cases h1.int
    cases h2.int
    exact call_min2 hc pins s σ H _ us Q I r ⟨_, _, rfl, rout_here ho (.int _)⟩
  · cases hf
end
section
variable {M : Md} {X : Cx} {B : Tb} {k : Nat} {σ : L2.St} {H : Hp} {W : WX} {c : En → Sto → Rs Wv}
/-! ### x.index(e), x a written tuple of texts -/
def idxS (ys : List Str) (z : Str) : Option Nat := ys.findIdx? fun y => decide (y = z)
def eGix (ys : List Str) (cs : En → Sto → Rs (List Wv)) : En → Sto → Rs Wv := fun env st => (cs env st).bind fun ws st1 => match ws with
  | [.d (.str z)] => match idxS ys z with
    | some i => .ok (.d (.int (i : Nat))) st1
    | none => .no
  | _ => .no
theorem de_gindex {x : Str} {p : Addr} {ys : List Str} {cs : En → Sto → Rs (List Wv)} {e : Expr} {p1 apos pos : Pos} (cx : Cxt M X B k) (j : Nat) (hg : B.gs[j]? = some x) (hm : M.mg x = some (.ref p)) (hq : ∀ H, SqT M.K H p (ys.map V.str))
    (ht : ∃ o, M.K.lookup p = some o ∧ o.cls = .type "tuple" ∧ o.dict = none) (ha : DA X [e] cs) (hd : (x == ("__debug__" : Str)) = false := by decide) (hbase : attributeBase (.Name x p1) "index" X.env (eval (.Name x p1) X.env) = eval (.Name x p1) X.env := by rfl)
    (hfew : ((backTo pos (starEach [e] X.env)).all (fun x => !x.1) && (backToKw pos (keywordEach [] X.env)).all (fun x => x.1.isSome)
      && decide ([e].length + ([] : List Keyword).length + (if ([] : List Keyword).isEmpty then 0 else 1) < 30)) = true := by rfl)
    (hline : (apos.endLine == pos.line) = true := by rfl) (hs : starEach [e] X.env = (false, eval e X.env) :: starEach [] X.env := by rfl) : DE X (.Call (.Attribute (.Name x p1) "index" apos) [e] [] pos) (eGix ys cs) := by
  refine ⟨fun W tk => PE.imp (pe_bm PySem.F.plainAttrs_tuple PySem.F.slot_tuple_index PySem.F.type_tuple_index mt_tup_index (pe_glob (v := .ref p) (cx.gl j x hg) (by rw [cx.mg]; exact hm) rfl hd) (ha.pa W tk) hbase hfew hline hs rfl) fun σ H Q ⟨m, env, st, S, R, hp⟩ => ?_⟩
  refine ⟨.inr (.inl ⟨rfl, by rw [cx.hK]; exact ht⟩), ?_⟩
  unfold eGix at hp
  rw [Rs.post_bind] at hp
  refine ⟨m, env, st, S, R, Rs.post_mono hp (fun ws st1 q vs H1 m1 f1 S1 r1 => ?_) fun _ _ q => q⟩
  split at q
  · rename_i z
    split at q
    · rename_i i ei
      obtain ⟨v, rfl, r⟩ := rws1 r1
      cases r
      unfold idxS at ei
      rw [List.findIdx?_eq_some_iff_getElem] at ei
      obtain ⟨hi, h1, h2⟩ := ei
      refine ⟨p, ys, z, i, rfl, rfl, by rw [cx.hK]; exact hq _, by rw [List.getElem?_eq_getElem hi]; simpa using h1, fun n hn e => ?_, q _ H1 m1 f1 S1 (.int _)⟩
      have := h2 n hn
      have hn2 : n < ys.length := by omega
      rw [List.getElem?_eq_getElem hn2] at e
      simp at this e
      exact this e
    · exact q.elim
  · exact q.elim
end
end
section
variable [Wtp] [Tbl]
/-! ## the law's own call -/
theorem sysM_of {h : Heap} (x : h.NoSeer) : SysM h := by
  obtain ⟨mm, ⟨o, es, ep, e, d, _⟩, _⟩ := x.mods
  exact ⟨o, es, ep, e, d⟩
theorem law_run (hT : Tbl.T = []) {g : Bool} {P : Program} {w : World} {K : Frg} {mg mb : Str → Option Value} {k : Nat} {fa a : Addr} {fd : FuncData} {x : Str} {mf : List Wv → Sto → Rs Wv} {st9 : Sto} {s : Shared} {us : List Value} {ns : List Int}
    (inK : K.In s.heap) (glob : s.heap.Ns mainGlobals mg) (bns : s.heap.Ns builtinsNs mb) (bok : ∀ x : Str, x ≠ "__name__" → mb x = bootBuiltins x) (nolim : s.heap.NoLimit) (sm : SysM s.heap) (hgen : s.gens = #[])
    (hobj : s.heap.get? a = some { cls := .type "list", data := .seq us.toArray }) (hint : IntsAre us ns) (hlen : ns.length ≤ sizeLine) (room : Room k callerA)
    (F : ∀ base : Heap, K.In base → base.Ns mainGlobals mg → SysM base → Fnk ⟨P, w, K, mg, base⟩ g k fa fd [x] mf) (bind : ∀ (s : Shared) (u : Value), BindsTo s fd ⟨[u], []⟩ [(x, u)])
    (law : mf [.d (.list (ns.map .int))] [] = .ok (.d (.bool true)) st9) :
    codeAny (model P w) callerA (.call (.ref fa) ⟨[.ref a], []⟩) (fun r s' => r = .ok (.ret (.bool true)) ∧ OldK s.heap s'.heap ∧ s'.os = s.os ∧ AllBare s'.gens) s := by
  have rel := vals_ints hint
  have ulen := hint.length
  have go : ∀ H : Hp, (∀ b u, H b = some u → b = a ∧ ∃ o, u = .frz o (.lst (ns.map V.int)) ∧ s.heap.get? b = some o) → LsX K H a (ns.map V.int) → HOk P w H s.heap → (H a ≠ none → K.lookup a = none) →
      codeAny (model P w) callerA (.call (.ref fa) ⟨[.ref a], []⟩) (fun r s' => r = .ok (.ret (.bool true)) ∧ OldK s.heap s'.heap ∧ s'.os = s.os ∧ AllBare s'.gens) s := by
    intro H only ls ok away
    have base0 : ∀ {b : Addr} {o : Obj}, s.heap.get? b = some o → H b = none → (hidT s.heap H).get? b = some o := fun e n => hidT_get e n
    have free : ∀ {b : Addr} {o : Obj} {es : Array DictEntry} {ep : Nat}, s.heap.get? b = some o → o.data = .dict es ep → H b = none := fun {b o es ep} e d => by
      cases q : H b with
      | none => rfl
      | some u =>
        obtain ⟨rfl, _⟩ := only b u q
        rw [hobj] at e
        cases e
        exact absurd (show Data.seq us.toArray _ = Data.dict es ep from d) fun z => nomatch z
    have ns' : ∀ {b : Addr} {m : Str → Option Value}, s.heap.Ns b m → (hidT s.heap H).Ns b m := fun {b m} h => by
      obtain ⟨o, es, ep, e, d, r⟩ := h
      exact ⟨o, es, ep, base0 e (free e d), d, r⟩
    have inB : K.In (hidT s.heap H) := fun b o e => base0 (inK b o e) (by
      cases q : H b with
      | none => rfl
      | some u =>
        obtain ⟨rfl, _⟩ := only b u q
        rw [away (by rw [q]; exact fun z => nomatch z)] at e
        cases e)
    obtain ⟨mc, lim1, lim2⟩ := nolim
    have hmod : Mod K mg (hidT s.heap H) := ⟨inB, ns' glob, ⟨mb, ns' bns, bok⟩, ⟨mc, ns' lim1, lim2⟩⟩
    have env : Env0 P w K mg (hidT s.heap H) callerA [] s H := ⟨rfl, hmod, fun b o e => of_hidT e, Nat.le_of_eq (hidT_size _ _), trivial, fun b hb => absurd hb List.not_mem_nil, ok, .of_eq hgen⟩
    have S : Sim K H ⟨fun _ => a, fun _ => False⟩ [] := ⟨fun i o e => by simp at e, fun i j hi => absurd hi (Nat.not_lt_zero _), fun b z => z.elim, fun i hi => absurd hi (Nat.not_lt_zero _), fun p hp => by rw [hT] at hp; exact absurd hp List.not_mem_nil⟩
    have items : ∀ l : List Int, RpA K H (Off ⟨fun _ => a, fun _ => False⟩ 0) (l.map V.int) (l.map PyData.int) := fun l => by
      induction l with
      | nil => exact .nil
      | cons i l ih => exact .cons (.int i) ih
    have off : Off ⟨fun _ => a, fun _ => False⟩ 0 a := ⟨fun i hi => absurd hi (Nat.not_lt_zero _), fun z => z⟩
    have arg : RWs K H ⟨fun _ => a, fun _ => False⟩ 0 [.ref a] [.d (.list (ns.map .int))] := .cons (.lst (by
      rcases ls with ⟨h, _⟩ | h | h
      · exact .inl ⟨h, off⟩
      · exact .inr (.inl h)
      · exact .inr (.inr h)) (items ns)) .nil
    refine codeAny_mono ((F _ inB (ns' glob) (let ⟨o, es, ep, e, d⟩ := sm; ⟨o, es, ep, base0 e (free e d), d⟩)).run callerA [] s H ⟨[.ref a], []⟩ [.ref a] [.ref a] _ _ [] (fun v _ => v = .bl true) (fun _ _ _ => False) room (fun _ => rfl) env (bind s (.ref a)) (.cons rfl .nil) S arg (by
      rw [law]
      intro v H' m' f S' r
      cases r
      rfl)) fun r s' hr => ?_
    cases r with
    | error e =>
      obtain ⟨_, _, _, _, _, _, _, _, _, _, _, _, z⟩ := hr
      exact z.elim
    | ok fl =>
      cases fl with
      | next => exact hr.elim
      | brk => exact hr.elim
      | cont => exact hr.elim
      | ret u =>
        obtain ⟨v, H', os, bare, un, ok', rv, ev⟩ := hr
        have ev : v = .bl true := ev
        subst ev
        cases (show u = Value.bool true from rv)
        refine ⟨rfl, OldK.of_keep fun b o e => ?_, os, bare⟩
        cases q : H b with
        | none => exact un.keep b o e q (fun z => absurd z List.not_mem_nil) List.not_mem_nil
        | some u =>
          obtain ⟨rfl, ob, rfl, e1⟩ := only b u q
          rw [e] at e1
          cases e1
          exact (ok' _ _ (un.frzs _ _ _ q)).1
  cases hk : K.lookup a with
  | some o =>
    have e := inK a o hk
    rw [hobj] at e
    cases e
    refine go (fun _ => none) (fun b u z => nomatch z) (.inr (.inr ⟨us.toArray, _, hk, by rw [List.size_toArray, ulen]; exact hlen, by simpa using rel⟩)) (fun b u z => nomatch z) fun z => absurd rfl z
  | none =>
    have one : ∀ {b u}, (if b = a then some (HO.frz { cls := .type "list", data := .seq us.toArray } (.lst (ns.map V.int))) else none) = some u → b = a ∧ u = .frz { cls := .type "list", data := .seq us.toArray } (.lst (ns.map V.int)) := fun {b u} z => by
      split at z
      · cases z; exact ⟨by assumption, rfl⟩
      · cases z
    refine go (fun b => if b = a then some (.frz { cls := .type "list", data := .seq us.toArray } (.lst (ns.map V.int))) else none) (fun b u z => ?_) (.inr (.inl ⟨_, if_pos rfl⟩)) (fun b u z => ?_) fun _ => hk
    · obtain ⟨rfl, rfl⟩ := one z
      exact ⟨rfl, _, rfl, hobj⟩
    · obtain ⟨rfl, rfl⟩ := one z
      exact ⟨hobj, by rw [List.length_map]; exact hlen, us, _, rel, hobj⟩
theorem walk_run (hT : Tbl.T = []) {g : Bool} {l : PySem.W.OpenLaw} {n k : Nat} {q : Program} {loose : List Str} {XP : (Str → Option Value) → Heap → Prop} {YP : World → Heap → Prop} {d : DefRec} {K : Params → Frg} {x : Str} {mf : List Wv → Sto → Rs Wv}
    (hI : importsNone q = true) (hn : l.most = some n) (hn2 : n ≤ sizeLine) (hdf : d.params.defaults = []) (hr : Room k callerA) (hY : ∀ (w : World) (h : Heap), YP w h → (K w.params).In h)
    (F : ∀ (w : World) (mg : Str → Option Value) (fa : Addr) (h : Heap), (K w.params).In h → h.Ns mainGlobals mg → mg d.name = some (.ref fa) →
      ∃ fd : FuncData, (∀ (s : Shared) (u : Value), BindsTo s fd ⟨[u], []⟩ [(x, u)]) ∧ ∀ base : Heap, (K w.params).In base → base.Ns mainGlobals mg → SysM base → Fnk ⟨l.prog, w, K w.params, mg, base⟩ g k fa fd [x] mf)
    (law : ∀ ns : List Int, ns.length ≤ n → ∃ st, mf [.d (.list (ns.map .int))] [] = .ok (.d (.bool true)) st) :
    PySem.W.WalkO q loose XP YP l.row.toRowW d [] (fun f vs => PySem.call f vs) := by
  refine Att.attach_call hn hdf fun w s0 s mg mb fa o pm cd doc a us ns G Y ho hd hcd hmg hobj hints hlen hg => ?_
  have inK := hY w _ Y
  obtain ⟨fd, hb, hF⟩ := F w mg fa _ inK G.T.g hmg
  obtain ⟨st, hl⟩ := law ns hlen
  exact law_run hT inK G.T.g G.T.b G.T.builtins G.T.nolimit (sysM_of (G.T.seer hI)) hg hobj hints (Nat.le_trans hlen hn2) hr hF hb hl
end
section
variable [Wtp] [Tbl]
/-! ## a, b = x, y: which stores -/
section
variable {M : Md} {X : Cx} {B : Tb} {k : Nat} {x y z : Str} {px py pz pt pt2 : Pos} {kt k2 : Nat} {a b e : Expr}
theorem isLoc (c : Cxt M X B k) {i : Nat} (h : i ∈ B.ps) (hx : B.N[i]? = some x) : X.env.kindOf x = some .local := c.pl i h x hx
theorem blkFn (c : Cxt M X B k) (hf : B.fn = true) : X.env.blockKind = .function := by unfold Env.blockKind; rw [c.kind hf]; rfl
def NoStar (e : Expr) : Prop := ∀ u p, e ≠ .Starred u p
theorem sw2 (c : Cxt M X B k) {i j : Nat} (hi : B.N[i]? = some x) (hj : B.N[j]? = some y) (pi : i ∈ B.ps) (pj : j ∈ B.ps) (hxy : [x, y].eraseDups.length = 2) (hf : B.fn = true) (hln : (py.line == px.line) = true)
    (ha : NoStar a) (hb : NoStar b) (hff : [a, b].all (foldedForSure 8) = false) (hca : [a, b].all (constantsAlone 8) = false) :
    swappedStores [.Tuple [.Name x px, .Name y py] kt pt] (.Tuple [a, b] k2 pt2) X.env = pure (some [x, y]) := by
  have h1 := isLoc c pi hi
  have h2 := isLoc c pj hj
  have h3 := blkFn c hf
  have hl : py.line = px.line := eq_of_beq hln
  unfold swappedStores
  simp [h1, h2, h3, hl, hff, hca, hxy, Expr.pos]
  rintro (h | h)
  · split at h
    · exact absurd rfl (ha _ _)
    · cases h
  · split at h
    · exact absurd rfl (hb _ _)
    · cases h
theorem sw3 (c : Cxt M X B k) {i j l : Nat} (hi : B.N[i]? = some x) (hj : B.N[j]? = some y) (hl : B.N[l]? = some z) (pi : i ∈ B.ps) (pj : j ∈ B.ps) (pl : l ∈ B.ps) (hxy : [x, y, z].eraseDups.length = 3) (hf : B.fn = true) (hln : (py.line == px.line) = true) (hlz : (pz.line == px.line) = true)
    (ha : NoStar a) (hb : NoStar b) (he : NoStar e) (hff : [a, b, e].all (foldedForSure 8) = false) (hca : [a, b, e].all (constantsAlone 8) = false) :
    swappedStores [.Tuple [.Name x px, .Name y py, .Name z pz] kt pt] (.Tuple [a, b, e] k2 pt2) X.env = pure (some [x, y, z]) := by
  have h1 := isLoc c pi hi
  have h2 := isLoc c pj hj
  have h4 := isLoc c pl hl
  have h3 := blkFn c hf
  have hl : py.line = px.line := eq_of_beq hln
  have hl2 : pz.line = px.line := eq_of_beq hlz
  unfold swappedStores
  simp [h1, h2, h3, h4, hl, hl2, hff, hca, hxy, Expr.pos]
  rintro (h | h | h)
  · split at h
    · exact absurd rfl (ha _ _)
    · cases h
  · split at h
    · exact absurd rfl (hb _ _)
    · cases h
  · split at h
    · exact absurd rfl (he _ _)
    · cases h
/-! ## the module's defs -/
def Has (M : Md) (g : Bool) (k : Nat) (x : Str) (ps : List Str) (mf : List Wv → Sto → Rs Wv) : Prop := ∃ f fd, M.mg x = some (.ref f) ∧ PySem.W.keepIn M.K (.ref f) = true ∧ Binds M.K fd ps [] ∧ Fnk M g k f fd ps mf
theorem Has.up {g : Bool} {ps : List Str} {mf : List Wv → Sto → Rs Wv} {j : Nat} (h : Has M g j x ps mf) (hj : j ≤ k) : Has M g k x ps mf := by
  obtain ⟨f, fd, h1, h2, h3, h4⟩ := h
  exact ⟨f, fd, h1, h2, h3, h4.mono hj⟩
theorem de_fn {g : Bool} {ps : List Str} {mf : List Wv → Sto → Rs Wv} {cs : En → Sto → Rs (List Wv)} {p pos : Pos} {es : List Expr} (c : Cxt M X B k) (F : Has M g k x ps mf) (j : Nat) (hg : B.gs[j]? = some x) (ha : DA X (e :: es) cs) (hgd : g = true → B.gd = true := by first | exact fun _ => rfl | exact fun z => Bool.noConfusion z) (hdb : (x == ("__debug__" : Str)) = false := by decide)
    (he : starEach (e :: es) X.env = (false, eval e X.env) :: starEach es X.env := by rfl) (hpl : (backTo pos (starEach es X.env)).any (·.1) = false := by rfl) : DE X (.Call (.Name x p) (e :: es) [] pos) (eCall mf cs) := by
  obtain ⟨f, fd, h1, h2, h3, h4⟩ := F
  exact de_call c h4 j hg h1 h2 h3 ha hgd hdb he hpl
/-- a def as the top has written it -/
structure TopFn (M : Md) (x : Str) (sf : Stmt) (ps : List Str) : Prop where
  at' : ∃ (f : Addr) (od an : Option Addr) (sl : Array (Option Value)) (oc kV dc pm cd ct : Value), M.mg x = some (.ref f) ∧ M.K.lookup f = some ⟨oc, od, .func (PySem.W.fnOf x x (defArgs sf) (defBody sf) (defScope sf) .none kV dc pm an cd ct), sl⟩ ∧
    PySem.W.codeIn M.K cd x = true ∧ PySem.W.keepIn M.K (.ref f) = true ∧ Binds M.K (PySem.W.fnOf x x (defArgs sf) (defBody sf) (defScope sf) .none kV dc pm an cd ct) ps []
/-- a def of the module that makes lambdas -/
structure LamT (M : Md) (x q : Str) : Prop where
  nm : (x ++ ".<locals>.") ++ "<lambda>" = q
  at' : ∃ c P : Addr, (∀ (f : Addr) (oc : Value) (od : Option Addr) (fd : FuncData) (sl : Array (Option Value)), M.mg x = some (.ref f) → M.K.lookup f = some ⟨oc, od, .func fd, sl⟩ → fd.code = .ref c) ∧ (P, q) ∈ Tbl.T ∧ (∀ p ∈ Tbl.T, p.1 = P → p.2 = q) ∧ LamX.TabB M.base M.mg c P
theorem LamT.to {q : Str} {f : Addr} {oc : Value} {od : Option Addr} {fd : FuncData} {sl : Array (Option Value)} (T : LamT M x q) (h1 : M.mg x = some (.ref f)) (h2 : M.K.lookup f = some ⟨oc, od, .func fd, sl⟩) : (x ++ ".<locals>.") ++ "<lambda>" = q ∧ LamC M.mg M.base q fd.code := by
  obtain ⟨c, P, e1, e2, e3, e4⟩ := T.at'
  exact ⟨T.nm, ⟨c, P, e1 f oc od fd sl h1 h2, e2, e3, e4⟩⟩
theorem has_of {sf : Stmt} {ps : List Str} {cb : En → Sto → SR} {np nN : Nat} (T : TopFn M x sf ps) (SC : FnScope B.N ps (defScope sf)) (hT : fnT B (defScope sf) = true) (hnp : ps.length = np) (hnN : B.N.length = nN)
    (hb : ∀ X : Cx, Cxt M X B k → DB X (defBody sf) cb) (hlam : ∀ q, B.lq = some q → LamT M x q := by intro _ h; exact nomatch (show (none : Option Str) = some _ from h)) : Has M B.gd (k + 1) x ps (mkF np nN cb) := by
  obtain ⟨f, od, an, sl, oc, kV, dc, pm, cd, ct, h1, h2, h3, h4, h5⟩ := T.at'
  exact ⟨f, _, h1, h4, h5, fnk_of h2 h3 SC hT hnp hnN hb (fun q hq => (hlam q hq).to h1 h2)⟩
/-! ## the module's constants -/
def Gw (M : Md) (x : Str) (y : PyData) : Prop := ∃ u v, M.mg x = some u ∧ RelV v u ∧ ∀ H Z, Rp M.K H Z v y
theorem de_gw {y : PyData} {p : Pos} (c : Cxt M X B k) (j : Nat) (h : B.gs[j]? = some x) (g : Gw M x y) (hd : (x == ("__debug__" : Str)) = false := by decide) : DE X (.Name x p) (eK y) := by
  obtain ⟨u, v, h1, h2, h3⟩ := g
  exact de_glob c j h h1 h2 h3 hd
def Gix (M : Md) (x : Str) (ys : List Str) : Prop := ∃ p, M.mg x = some (.ref p) ∧ (∀ H, SqT M.K H p (ys.map V.str)) ∧ ∃ o, M.K.lookup p = some o ∧ o.cls = .type "tuple" ∧ o.dict = none
theorem de_gix {ys : List Str} {cs : En → Sto → Rs (List Wv)} {p1 apos pos : Pos} (c : Cxt M X B k) (j : Nat) (h : B.gs[j]? = some x) (g : Gix M x ys) (ha : DA X [e] cs)
    (hfew : ((backTo pos (starEach [e] X.env)).all (fun x => !x.1) && (backToKw pos (keywordEach [] X.env)).all (fun x => x.1.isSome)
      && decide ([e].length + ([] : List Keyword).length + (if ([] : List Keyword).isEmpty then 0 else 1) < 30)) = true := by rfl)
    (hline : (apos.endLine == pos.line) = true := by rfl) (hs : starEach [e] X.env = (false, eval e X.env) :: starEach [] X.env := by rfl) (hd : (x == ("__debug__" : Str)) = false := by decide)
    (hbase : attributeBase (.Name x p1) "index" X.env (eval (.Name x p1) X.env) = eval (.Name x p1) X.env := by rfl) : DE X (.Call (.Attribute (.Name x p1) "index" apos) [e] [] pos) (eGix ys cs) := by
  obtain ⟨p, h1, h2, h3⟩ := g
  exact de_gindex c j h h1 h2 h3 ha hd hbase hfew hline hs
theorem top_mk {h : Heap} {sf : Stmt} {ps : List Str} {f : Addr} {od an : Option Addr} {sl : Array (Option Value)} {oc kV dc pm cd ct : Value} (inK : M.K.In h) (G : h.Ns mainGlobals M.mg) (a : PySem.W.nsIn M.K mainGlobals x = some (some (.ref f)))
    (l : M.K.lookup f = some ⟨oc, od, .func (PySem.W.fnOf x x (defArgs sf) (defBody sf) (defScope sf) .none kV dc pm an cd ct), sl⟩) (cc : PySem.W.codeIn M.K cd x = true) (kk : PySem.W.keepIn M.K (.ref f) = true)
    (hb : ∀ us : List Value, us.length = ps.length → bindArgs (PySem.W.fnOf x x (defArgs sf) (defBody sf) (defScope sf) .none kV dc pm an cd ct) ⟨us, []⟩ = pure (ps.zip us)) : TopFn M x sf ps :=
  ⟨f, od, an, sl, oc, kV, dc, pm, cd, ct, PySem.W.mg_of inK G a, l, cc, kk, .all hb⟩
/-- a value that the top has written -/
def Wr (K : Frg) (u : Value) (d : PyData) : Prop := ∃ v, RelV v u ∧ ∀ H Z, Rp K H Z v d
def Wrs (K : Frg) (us : List Value) (ds : List PyData) : Prop := ∃ vs, Vals vs us ∧ ∀ H Z, RpA K H Z vs ds
section
variable {K : Frg}
theorem wr_int {i : Int} {t : Tok} : Wr K (.int i t) (.int i) := ⟨.int i, ⟨t, rfl⟩, fun _ _ => .int i⟩
theorem wr_str {z : Str} {t : Tok} : Wr K (.str z t) (.str z) := ⟨.str z, ⟨t, rfl⟩, fun _ _ => .str z⟩
theorem wrs_nil : Wrs K [] [] := ⟨[], .nil, fun _ _ => .nil⟩
theorem wrs_cons {u : Value} {us : List Value} {d : PyData} {ds : List PyData} (h : Wr K u d) (r : Wrs K us ds) : Wrs K (u :: us) (d :: ds) := by
  obtain ⟨v, h1, h2⟩ := h
  obtain ⟨vs, h3, h4⟩ := r
  exact ⟨v :: vs, .cons h1 h3, fun H Z => .cons (h2 H Z) (h4 H Z)⟩
theorem wr_tup {p : Addr} {us : List Value} {ds : List PyData} {n : Nat} {sl : Array (Option Value)} (l : K.lookup p = some ⟨.type "tuple", none, .seq us.toArray n, sl⟩) (hz : us.length ≤ 1000) (r : Wrs K us ds) (hw : PyData.tuple ds ∈ Wtp.W) : Wr K (.ref p) (.tuple ds) := by
  obtain ⟨vs, h1, h2⟩ := r
  exact ⟨.ref p, rfl, fun H Z => .tup (.inr ⟨.inr ⟨_, us.toArray, n, l, rfl, rfl, by have := line_lim; simp; omega, by simpa using h1⟩, hw⟩) (h2 H Z)⟩
end
theorem gw_of {h : Heap} {u : Value} {y : PyData} (inK : M.K.In h) (G : h.Ns mainGlobals M.mg) (a : PySem.W.nsIn M.K mainGlobals x = some (some u)) (w : Wr M.K u y) : Gw M x y := by
  obtain ⟨v, h1, h2⟩ := w
  exact ⟨u, v, PySem.W.mg_of inK G a, h1, h2⟩
theorem gix_of {h : Heap} {p : Addr} {us : List Value} {n : Nat} {sl : Array (Option Value)} {ys : List Str} (inK : M.K.In h) (G : h.Ns mainGlobals M.mg) (a : PySem.W.nsIn M.K mainGlobals x = some (some (.ref p))) (l : M.K.lookup p = some ⟨.type "tuple", none, .seq us.toArray n, sl⟩)
    (hz : us.length ≤ 1000) (hv : Vals (ys.map V.str) us) : Gix M x ys :=
  ⟨p, PySem.W.mg_of inK G a, fun H => .inr ⟨_, us.toArray, n, l, rfl, rfl, by have := line_lim; simp; omega, by simpa using hv⟩, _, l, rfl, rfl⟩
end
end
section
variable [Wtp] [Tbl]
/-! ## reading a def on data -/
section
variable {α β : Type} (env : En) (st : Sto)
@[simp] theorem x_var (i : Nat) : eVar i env st = match env[i]? with
  | some (some w) => .ok w st
  | _ => .no := rfl
@[simp] theorem x_k (x : PyData) : eK x env st = .ok (.d x) st := rfl
@[simp] theorem x_op2 (f : PyData → PyData → Option PyData) (a b : En → Sto → Rs Wv) : eOp2 f a b env st = (a env st).bind fun v st1 => (b env st1).bind fun w st2 => look1 v st2 fun d => look1 w st2 fun e => ret1 (f d e) st2 := rfl
@[simp] theorem x_op1 (f : PyData → Option PyData) (a : En → Sto → Rs Wv) : eOp1 f a env st = (a env st).bind fun v st1 => look1 v st1 fun d => ret1 (f d) st1 := rfl
@[simp] theorem x_nil : aNil env st = .ok [] st := rfl
@[simp] theorem x_cons (a : En → Sto → Rs Wv) (b : En → Sto → Rs (List Wv)) : aCons a b env st = (a env st).bind fun v st1 => (b env st1).bind fun r st2 => .ok (v :: r) st2 := rfl
end
def srcW (w : Wv) (st1 : Sto) : Rs Sc := match w with
  | .d (.str x) => .ok ⟨x.cps.toList.map sgnD, []⟩ st1
  | .d (.dict es) => .ok ⟨es.map (·.1), []⟩ st1
  | w => match seqW w st1 with
    | some sc => .ok sc st1
    | none => .no
def rg1W (ws : List Wv) (st1 : Sto) : Rs Sc := match ws with
  | [.d (.int j)] => if rgOk j then .ok ⟨rangeD 0 j.toNat, []⟩ st1 else .no
  | _ => .no
def rg2W (ws : List Wv) (st1 : Sto) : Rs Sc := match ws with
  | [.d (.int i), .d (.int j)] => if rgOk i && rgOk j then .ok ⟨rangeD i (j - i).toNat, []⟩ st1 else .no
  | _ => .no
def rgdW (ws : List Wv) (st1 : Sto) : Rs Sc := match ws with
  | [.d (.int i), .d (.int j), .d (.int (-1))] => if rgOk i && rgOk j then .ok ⟨downD i (i - j).toNat, []⟩ st1 else .no
  | _ => .no
def enumW (ws : List Wv) (st1 : Sto) : Rs Sc := match ws with
  | [u] => match seqW u st1 with
    | some a => .ok ⟨enumD a.xs, a.lv⟩ st1
    | _ => .no
  | _ => .no
def zip2W (ws : List Wv) (st1 : Sto) : Rs Sc := match ws with
  | [u, v] => match seqW u st1, seqW v st1 with
    | some a, some b => .ok ⟨List.zipWith pairD a.xs b.xs, a.lv ++ b.lv⟩ st1
    | _, _ => .no
  | _ => .no
def zip3W (ws : List Wv) (st1 : Sto) : Rs Sc := match ws with
  | [u, v, w] => match seqW u st1, seqW v st1, seqW w st1 with
    | some a, some b, some c => .ok ⟨zip3 a.xs b.xs c.xs, (a.lv ++ b.lv) ++ c.lv⟩ st1
    | _, _, _ => .no
  | _ => .no
def tupW (ws : List Wv) (st1 : Sto) : Rs Wv := match allD ws with
  | some ds => if ds.length ≤ 1000000 then .ok (.d (.tuple ds)) st1 else .no
  | none => .no
def lstW (ws : List Wv) (st1 : Sto) : Rs Wv := match allD ws with
  | some ds => if ds.length ≤ 1000000 then .ok (.d (.list ds)) st1 else .no
  | none => .no
def newW (ws : List Wv) (st1 : Sto) : Rs Wv := match allD ws with
  | some ds => if ds.length ≤ 1000000 then .ok (.r st1.length) (st1 ++ [.lst ds]) else .no
  | none => .no
def gixW (ys : List Str) (ws : List Wv) (st1 : Sto) : Rs Wv := match ws with
  | [.d (.str z)] => match idxS ys z with
    | some i => .ok (.d (.int (i : Nat))) st1
    | none => .no
  | _ => .no
@[simp] theorem x_opN (env : En) (st : Sto) (f : List PyData → Option PyData) (c : En → Sto → Rs (List Wv)) : eOpN f c env st = ((c env st).bind fun ws st1 => match looks ws st1 with | some ds => ret1 (f ds) st1 | none => .no) := rfl
@[simp] theorem x_tru (env : En) (st : Sto) (c : En → Sto → Rs Wv) : tTru c env st = ((c env st).bind tru) := rfl
@[simp] theorem x_and (env : En) (st : Sto) (a b : En → Sto → Rs Bool) : tAnd2 a b env st = ((a env st).bind fun x st1 => if x = true then b env st1 else .ok false st1) := rfl
@[simp] theorem x_or (env : En) (st : Sto) (a b : En → Sto → Rs Bool) : tOr2 a b env st = ((a env st).bind fun x st1 => if x = true then .ok true st1 else b env st1) := rfl
@[simp] theorem x_not (env : En) (st : Sto) (a : En → Sto → Rs Bool) : tNot1 a env st = ((a env st).bind fun x st1 => .ok (!x) st1) := rfl
@[simp] theorem x_eand (env : En) (st : Sto) (a b : En → Sto → Rs Wv) : eAnd2 a b env st = ((a env st).bind fun w st1 => (tru w st1).bind fun x st2 => if x = true then b env st2 else .ok w st2) := rfl
@[simp] theorem x_eor (env : En) (st : Sto) (a b : En → Sto → Rs Wv) : eOr2 a b env st = ((a env st).bind fun w st1 => (tru w st1).bind fun x st2 => if x = true then .ok w st2 else b env st2) := rfl
@[simp] theorem x_enot (env : En) (st : Sto) (a : En → Sto → Rs Wv) : eNot1 a env st = ((a env st).bind fun w st1 => (tru w st1).bind fun x st2 => .ok (.d (.bool (!x))) st2) := rfl
@[simp] theorem x_eif (env : En) (st : Sto) (t : En → Sto → Rs Bool) (a b : En → Sto → Rs Wv) : eIf t a b env st = ((t env st).bind fun x st1 => if x = true then a env st1 else b env st1) := rfl
@[simp] theorem x_bl (env : En) (st : Sto) (c : En → Sto → Rs Wv) : tBl c env st = ((c env st).bind fun w st1 => match w with | .d (.bool b) => .ok b st1 | _ => .no) := rfl
@[simp] theorem x_newd (env : En) (st : Sto)  : eNewD env st = (.ok (.r st.length) (st ++ [.dct []])) := rfl
def sixTW (env : En) (x w : Wv) (js : List Wv) (st3 : Sto) : SR := match x with
  | .d y => match allD js with
    | some ds => if ds.length ≤ 1000000 then (match setWT w (.tuple ds) y st3 with
      | some st4 => .nx env st4
      | none => .no) else .no
    | none => .no
  | _ => .no
@[simp] theorem x_sixt (env : En) (st : Sto) (co : En → Sto → Rs Wv) (cs : En → Sto → Rs (List Wv)) (ce : En → Sto → Rs Wv) : sIxT co cs ce env st = ((ce env st).sb fun x st1 => (co env st1).sb fun w st2 => (cs env st2).sb (sixTW env x w)) := rfl
@[simp] theorem x_newt (env : En) (st : Sto) : eNewT env st = (.ok (.r st.length) (st ++ [.dtt []])) := rfl
@[simp] theorem x_dic0 (env : En) (st : Sto)  : eDic0 env st = (.ok (.d (.dict [])) st) := rfl
@[simp] theorem x_slice (env : En) (st : Sto) (c : En → Sto → Rs Wv) (l h : En → Sto → Rs (Option Int)) : eSlice c l h env st = ((c env st).bind fun w st1 => (l env st1).bind fun i st2 => (h env st2).bind fun j st3 => look1 w st3 fun d => ret1 (slD i j d) st3) := rfl
@[simp] theorem x_pno (env : En) (st : Sto)  : pNo env st = (.ok none st) := rfl
@[simp] theorem x_psome (env : En) (st : Sto) (c : En → Sto → Rs Wv) : pSome c env st = ((c env st).bind fun w st1 => match w with | .d (.int i) => .ok (some i) st1 | _ => .no) := rfl
@[simp] theorem x_snil (env : En) (st : Sto)  : sNil env st = (.nx env st) := rfl
@[simp] theorem x_seq (env : En) (st : Sto) (a b : En → Sto → SR) : sSeq a b env st = ((a env st).seq b) := rfl
@[simp] theorem x_set (env : En) (st : Sto) (i : Nat) (c : En → Sto → Rs Wv) : sSet i c env st = ((c env st).sb fun w st1 => .nx (env.set i (some w)) st1) := rfl
@[simp] theorem x_ret (env : En) (st : Sto) (c : En → Sto → Rs Wv) : sRet c env st = ((c env st).sb fun w st1 => .rt (.w w) st1) := rfl
@[simp] theorem x_retf (env : En) (st : Sto) (c : En → Sto → Rs Wv) : sRetF c env st = ((c env st).sb fun w st1 => .rt (.f w) st1) := rfl
@[simp] theorem x_rett (env : En) (st : Sto) (c : En → Sto → Rs (List Wv)) : sRetT c env st = ((c env st).sb fun ws st1 => if ws.length ≤ 1000 then .rt (.ft ws) st1 else .no) := rfl
@[simp] theorem x_retn (env : En) (st : Sto)  : sRetN env st = (.rt (.w (.d .none)) st) := rfl
@[simp] theorem x_exp (env : En) (st : Sto) (c : En → Sto → Rs Wv) : sExp c env st = ((c env st).sb fun _ st1 => .nx env st1) := rfl
@[simp] theorem x_if (env : En) (st : Sto) (t : En → Sto → Rs Bool) (a b : En → Sto → SR) : sIf t a b env st = ((t env st).sb fun x st1 => if x = true then a env st1 else b env st1) := rfl
@[simp] theorem x_sno (env : En) (st : Sto)  : sNo env st = (.no) := rfl
@[simp] theorem x_asg (env : En) (st : Sto) (g : Wv → En → Option En) (c : En → Sto → Rs Wv) : sAsg g c env st = ((c env st).sb fun w st1 => match g w env with | some env' => .nx env' st1 | none => .no) := rfl
@[simp] theorem x_par2 (env : En) (st : Sto) (i j : Nat) (c : En → Sto → Rs (List Wv)) : sPar2 i j c env st = ((c env st).sb fun ws st1 => match ws with | [v, w] => .nx ((env.set i (some v)).set j (some w)) st1 | _ => .no) := rfl
@[simp] theorem x_par3 (env : En) (st : Sto) (i j l : Nat) (c : En → Sto → Rs (List Wv)) : sPar3 i j l c env st = ((c env st).sb fun ws st1 => match ws with | [u, v, w] => .nx (((env.set i (some u)).set j (some v)).set l (some w)) st1 | _ => .no) := rfl
@[simp] theorem x_for (env : En) (st : Sto) (ci : En → Sto → Rs Sc) (g : Wv → En → Option En) (b : En → Sto → SR) : sFor ci g b env st = ((ci env st).sb fun sc st1 => forL g b sc.lv sc.xs env st1) := rfl
@[simp] theorem x_clc (env : En) (st : Sto) (ci : En → Sto → Rs Sc) (g : Wv → En → Option En) (t : En → Sto → Rs Bool) (c : En → Sto → Rs Wv) (vs : List Nat) : cLc ci g t c vs env st = ((ci env st).bind fun sc st1 => if sc.xs.length ≤ 1000000 then lcL g t c sc.lv (wipeE env vs) sc.xs [] st1 else .no) := rfl
@[simp] theorem x_lc (env : En) (st : Sto) (ci : En → Sto → Rs Sc) (g : Wv → En → Option En) (t : En → Sto → Rs Bool) (c : En → Sto → Rs Wv) (vs : List Nat) : eLc ci g t c vs env st = ((cLc ci g t c vs env st).bind fun ys st2 => .ok (.d (.list ys)) st2) := rfl
@[simp] theorem x_lcn (env : En) (st : Sto) (ci : En → Sto → Rs Sc) (g : Wv → En → Option En) (t : En → Sto → Rs Bool) (c : En → Sto → Rs Wv) (vs : List Nat) : eLcN ci g t c vs env st = ((cLc ci g t c vs env st).bind fun ys st2 => .ok (.r st2.length) (st2 ++ [.lst ys])) := rfl
@[simp] theorem x_yes (env : En) (st : Sto)  : tYs env st = (.ok true st) := rfl
@[simp] theorem x_meth (env : En) (st : Sto) (g : Wv → List Wv → Sto → Rs Wv) (co : En → Sto → Rs Wv) (cs : En → Sto → Rs (List Wv)) : eM g co cs env st = ((co env st).bind fun w st1 => if isLst st1 w = true then (cs env st1).bind fun ws st2 => g w ws st2 else .no) := rfl
@[simp] theorem x_call (env : En) (st : Sto) (mf : List Wv → Sto → Rs Wv) (cs : En → Sto → Rs (List Wv)) : eCall mf cs env st = ((cs env st).bind mf) := rfl
@[simp] theorem x_seqs (env : En) (st : Sto) (c : En → Sto → Rs Wv) : cSeq c env st = ((c env st).bind srcW) := rfl
@[simp] theorem x_rg1 (env : En) (st : Sto) (c : En → Sto → Rs (List Wv)) : cRg1 c env st = ((c env st).bind rg1W) := rfl
@[simp] theorem x_rg2 (env : En) (st : Sto) (c : En → Sto → Rs (List Wv)) : cRg2 c env st = ((c env st).bind rg2W) := rfl
@[simp] theorem x_rgd (env : En) (st : Sto) (c : En → Sto → Rs (List Wv)) : cRgD c env st = ((c env st).bind rgdW) := rfl
@[simp] theorem x_enum (env : En) (st : Sto) (c : En → Sto → Rs (List Wv)) : cEnum c env st = ((c env st).bind enumW) := rfl
@[simp] theorem x_zip2 (env : En) (st : Sto) (c : En → Sto → Rs (List Wv)) : cZip2 c env st = ((c env st).bind zip2W) := rfl
@[simp] theorem x_zip3 (env : En) (st : Sto) (c : En → Sto → Rs (List Wv)) : cZip3 c env st = ((c env st).bind zip3W) := rfl
@[simp] theorem x_tup (env : En) (st : Sto) (c : En → Sto → Rs (List Wv)) : eTup c env st = ((c env st).bind tupW) := rfl
@[simp] theorem x_lst (env : En) (st : Sto) (c : En → Sto → Rs (List Wv)) : eLst c env st = ((c env st).bind lstW) := rfl
@[simp] theorem x_newl (env : En) (st : Sto) (c : En → Sto → Rs (List Wv)) : eNewL c env st = ((c env st).bind newW) := rfl
@[simp] theorem x_gix (env : En) (st : Sto) (ys : List Str) (c : En → Sto → Rs (List Wv)) : eGix ys c env st = ((c env st).bind (gixW ys)) := rfl
def chW (o : Option PyData) (k : Rs Wv) (st : Sto) : Rs Wv := match o with
  | some (.bool true) => k
  | some (.bool false) => .ok (.d (.bool false)) st
  | _ => .no
@[simp] theorem chW_b (b : Bool) (k : Rs Wv) (st : Sto) : chW (some (.bool b)) k st = if b = true then k else .ok (.d (.bool false)) st := by cases b <;> rfl
@[simp] theorem x_chain (env : En) (st : Sto) (f g : PyData → PyData → Option PyData) (a b c : En → Sto → Rs Wv) : eChain f g a b c env st = ((a env st).bind fun v st1 => (b env st1).bind fun w st2 => look1 v st2 fun d => look1 w st2 fun e => chW (f d e) ((c env st2).bind fun z st3 => look1 w st3 fun e' => look1 z st3 fun y => ret1 (g e' y) st3) st2) := rfl
@[simp] theorem if_a (p : Prop) [Decidable p] (x : Bool) (st : Sto) : (if p then Rs.ok (Wv.d (.bool x)) st else Rs.ok (Wv.d (.bool false)) st) = Rs.ok (Wv.d (.bool (decide p && x))) st := by by_cases h : p <;> simp [h]
@[simp] theorem if_o (p : Prop) [Decidable p] (x : Bool) (st : Sto) : (if p then Rs.ok (Wv.d (.bool true)) st else Rs.ok (Wv.d (.bool x)) st) = Rs.ok (Wv.d (.bool (decide p || x))) st := by by_cases h : p <;> simp [h]
@[simp] theorem if_c (p : Prop) [Decidable p] (x : Bool) (st : Sto) : (if p then Rs.ok (Wv.d (.bool false)) st else Rs.ok (Wv.d (.bool x)) st) = Rs.ok (Wv.d (.bool (!decide p && x))) st := by by_cases h : p <;> simp [h]
@[simp] theorem if_d (p : Prop) [Decidable p] (x : Bool) (st : Sto) : (if p then Rs.ok (Wv.d (.bool x)) st else Rs.ok (Wv.d (.bool true)) st) = Rs.ok (Wv.d (.bool (!decide p || x))) st := by by_cases h : p <;> simp [h]
@[simp] theorem if_ta (p : Prop) [Decidable p] (x : Bool) (st : Sto) : (if p then Rs.ok x st else Rs.ok false st) = Rs.ok (decide p && x) st := by by_cases h : p <;> simp [h]
@[simp] theorem if_to (p : Prop) [Decidable p] (x : Bool) (st : Sto) : (if p then Rs.ok true st else Rs.ok x st) = Rs.ok (decide p || x) st := by by_cases h : p <;> simp [h]
@[simp] theorem if_tc (p : Prop) [Decidable p] (x : Bool) (st : Sto) : (if p then Rs.ok false st else Rs.ok x st) = Rs.ok (!decide p && x) st := by by_cases h : p <;> simp [h]
@[simp] theorem if_td (p : Prop) [Decidable p] (x : Bool) (st : Sto) : (if p then Rs.ok x st else Rs.ok true st) = Rs.ok (!decide p || x) st := by by_cases h : p <;> simp [h]
@[simp] theorem if_a2 (b x : Bool) (st : Sto) : (if b = true then Rs.ok (Wv.d (.bool x)) st else Rs.ok (Wv.d (.bool b)) st) = Rs.ok (Wv.d (.bool (b && x))) st := by cases b <;> rfl
@[simp] theorem if_o2 (b x : Bool) (st : Sto) : (if b = true then Rs.ok (Wv.d (.bool b)) st else Rs.ok (Wv.d (.bool x)) st) = Rs.ok (Wv.d (.bool (b || x))) st := by cases b <;> rfl
noncomputable def sixW (env : En) (w j x : Wv) (st3 : Sto) : SR := match x with
  | .d y => match setW w j y st3 with
    | some st4 => .nx env st4
    | none => .no
  | _ => .no
@[simp] theorem x_six (env : En) (st : Sto) (co ci ce : En → Sto → Rs Wv) : sIx co ci ce env st = (ce env st).sb fun x st1 => (co env st1).sb fun w st2 => (ci env st2).sb fun j st3 => sixW env w j x st3 := rfl
@[simp] theorem x_gN (i : Nat) (w : Wv) (env : En) : gN i w env = some (env.set i (some w)) := rfl
@[simp] theorem x_gTp (g : List PyData → En → Option En) (xs : List PyData) (env : En) : gTp g (.d (.tuple xs)) env = g xs env := rfl
@[simp] theorem x_gNl (env : En) : gNl [] env = some env := rfl
@[simp] theorem x_gCn (g : Wv → En → Option En) (h : List PyData → En → Option En) (x : PyData) (r : List PyData) (env : En) : gCn g h (x :: r) env = (g (.d x) env).bind (h r) := rfl
@[simp] theorem x_mk (np N : Nat) (b : En → Sto → SR) (ws : List Wv) (st : Sto) : mkF np N b ws st = if ws.length = np then endS st.length (b (ws.map some ++ List.replicate (N - ws.length) none) st) else .no := rfl
@[simp] theorem x_end_nx (n : Nat) (env : En) (st : Sto) : endS n (.nx env st) = .ok (.d .none) (st.take n) := rfl
@[simp] theorem x_end_d (n : Nat) (x : PyData) (st : Sto) : endS n (.rt (.w (.d x)) st) = .ok (.d x) (st.take n) := rfl
@[simp] theorem x_end_fd (n : Nat) (x : PyData) (st : Sto) : endS n (.rt (.f (Wv.d x)) st) = .ok (.d x) (st.take n) := rfl
theorem x_end_fr {n i : Nat} {st : Sto} {xs : List PyData} (hi : n ≤ i) (h : st[i]? = some (.lst xs)) : endS n (.rt (.f (.r i)) st) = .ok (.d (.list xs)) (st.take n) := by
  show (match frzW n st (.r i) with | some x => Rs.ok (Wv.d x) (st.take n) | none => .no) = _
  unfold frzW
  simp [hi, h]
theorem x_end_r {n i : Nat} {st : Sto} {o : Ob} (hi : n ≤ i) (h : st[i]? = some o) : endS n (.rt (.w (.r i)) st) = .ok (.r n) (st.take n ++ [o]) := by
  show (if i < n then Rs.ok (Wv.r i) (st.take n) else match st[i]? with | some o => Rs.ok (Wv.r n) (st.take n ++ [o]) | none => .no) = _
  rw [if_neg (by omega), h]
/-! ## the operations on data -/
@[simp] theorem o_add_i (i j : Int) : addD (.int i) (.int j) = some (.int (i + j)) := rfl
@[simp] theorem o_add_t (xs ys : List PyData) : addD (.tuple xs) (.tuple ys) = if xs.length + ys.length ≤ 1000000 then some (.tuple (xs ++ ys)) else none := rfl
@[simp] theorem o_add_l (xs ys : List PyData) : addD (.list xs) (.list ys) = if xs.length + ys.length ≤ 1000000 then some (.list (xs ++ ys)) else none := rfl
@[simp] theorem o_sub_i (i j : Int) : subD (.int i) (.int j) = some (.int (i - j)) := rfl
@[simp] theorem o_mul_i (i j : Int) : mulD (.int i) (.int j) = if bigOk i j = true then some (.int (i * j)) else none := rfl
@[simp] theorem o_mul_t (xs : List PyData) (k : Int) : mulD (.tuple xs) (.int k) = if k = 1 then some (.tuple xs) else if 2 ≤ k ∧ k ≤ 1000 ∧ xs.length ≤ 1000 ∧ xs ≠ [] then some (.tuple (List.replicate k.toNat xs).flatten) else if xs = [] ∧ 0 ≤ k ∧ k ≤ 1000 then some (.tuple []) else none := rfl
@[simp] theorem o_mul_l (xs : List PyData) (k : Int) : mulD (.list xs) (.int k) = if 0 ≤ k ∧ k ≤ 1000 ∧ xs.length ≤ 1000 then some (.list (List.replicate k.toNat xs).flatten) else none := rfl
@[simp] theorem o_div_i (i j : Int) : divD (.int i) (.int j) = if 0 < j ∧ j < 1073741824 then some (.int (i / j)) else if 0 < j ∧ j < 1606938044258990275541962092341162602522202993782792835301376 then some (.int (i / j)) else none := rfl
@[simp] theorem o_mod_i (i j : Int) : modD (.int i) (.int j) = if 0 < j then some (.int (i % j)) else none := rfl
@[simp] theorem o_pow_i (i j : Int) : powD (.int i) (.int j) = if 0 ≤ j ∧ j ≤ 1000 ∧ i.natAbs < 18446744073709551616 then some (.int (i ^ j.toNat)) else none := rfl
@[simp] theorem o_neg_i (i : Int) : negD (.int i) = some (.int (-i)) := rfl
@[simp] theorem o_eq_i (i j : Int) : eqD (.int i) (.int j) = some (.bool (i == j)) := rfl
@[simp] theorem o_ne_i (i j : Int) : neD (.int i) (.int j) = some (.bool (!(i == j))) := rfl
@[simp] theorem o_eq_b (i j : Bool) : eqD (.bool i) (.bool j) = some (.bool (i == j)) := rfl
@[simp] theorem o_ne_b (i j : Bool) : neD (.bool i) (.bool j) = some (.bool (!(i == j))) := rfl
@[simp] theorem o_eq_s (i j : Str) : eqD (.str i) (.str j) = some (.bool (i == j)) := rfl
@[simp] theorem o_ne_s (i j : Str) : neD (.str i) (.str j) = some (.bool (!(i == j))) := rfl
@[simp] theorem o_lt_i (i j : Int) : ltD (.int i) (.int j) = some (.bool (decide (i < j))) := rfl
@[simp] theorem o_gt_i (i j : Int) : gtD (.int i) (.int j) = some (.bool (decide (j < i))) := rfl
@[simp] theorem o_le_i (i j : Int) : leD (.int i) (.int j) = some (.bool (decide (i ≤ j))) := rfl
@[simp] theorem o_ge_i (i j : Int) : geD (.int i) (.int j) = some (.bool (decide (j ≤ i))) := rfl
@[simp] theorem o_is_n (a : PyData) : isND a .none = some (.bool (isNone a)) := rfl
@[simp] theorem o_nt_n (a : PyData) : ntND a .none = some (.bool (!isNone a)) := rfl
@[simp] theorem o_ix_t (xs : List PyData) (i : Int) : ixD (.tuple xs) (.int i) = atD xs i := rfl
@[simp] theorem o_ix_l (xs : List PyData) (i : Int) : ixD (.list xs) (.int i) = atD xs i := rfl
@[simp] theorem o_sl_t (xs : List PyData) (i j : Option Int) : slD i j (.tuple xs) = some (.tuple (cutD xs i j)) := rfl
@[simp] theorem o_sl_l (xs : List PyData) (i j : Option Int) : slD i j (.list xs) = some (.list (cutD xs i j)) := rfl
@[simp] theorem o_len_t (xs : List PyData) : lenF [.tuple xs] = some (.int xs.length) := rfl
@[simp] theorem o_len_l (xs : List PyData) : lenF [.list xs] = some (.int xs.length) := rfl
@[simp] theorem o_tup_t (xs : List PyData) : tupF [.tuple xs] = some (.tuple xs) := rfl
@[simp] theorem o_tup_l (xs : List PyData) : tupF [.list xs] = some (.tuple xs) := rfl
@[simp] theorem o_int_i (i : Int) : intF [.int i] = some (.int i) := rfl
@[simp] theorem o_int_b (b : Bool) : intF [.bool b] = some (.int (if b then 1 else 0)) := rfl
@[simp] theorem o_max2 (i j : Int) : max2F [.int i, .int j] = some (.int (if j > i then j else i)) := rfl
@[simp] theorem o_min2 (i j : Int) : min2F [.int i, .int j] = some (.int (if j < i then j else i)) := rfl
@[simp] theorem o_all (bs : List Bool) : allF [.list (bs.map .bool)] = some (.bool (bs.all id)) := by show (boolsOf _).map _ = _; rw [boolsOf_map]; rfl
@[simp] theorem o_sum_l (ns : List Int) : sumF [.list (ns.map .int)] = some (.int ns.sum) := by show (intsOf _).map _ = _; rw [intsOf_map]; rfl
@[simp] theorem o_sum_t (ns : List Int) : sumF [.tuple (ns.map .int)] = some (.int ns.sum) := by show (intsOf _).map _ = _; rw [intsOf_map]; rfl
@[simp] theorem tru_i (i : Int) (st : Sto) : tru (.d (.int i)) st = .ok (!(i == 0)) st := rfl
theorem atD_nat {α : Type} {xs : List α} {i : Nat} : atD xs (i : Nat) = xs[i]? := by
  unfold atD
  unfold ixN
  rw [if_pos (by omega)]
  split
  · simp
  · simp; omega
@[simp] theorem atD_0 {α : Type} (x : α) (xs : List α) : atD (x :: xs) 0 = some x := atD_nat (i := 0)
@[simp] theorem atD_1 {α : Type} (x y : α) (xs : List α) : atD (x :: y :: xs) 1 = some y := atD_nat (i := 1)
@[simp] theorem atD_2 {α : Type} (x y z : α) (xs : List α) : atD (x :: y :: z :: xs) 2 = some z := atD_nat (i := 2)
@[simp] theorem atD_3 {α : Type} (x y z w : α) (xs : List α) : atD (x :: y :: z :: w :: xs) 3 = some w := atD_nat (i := 3)
@[simp] theorem isa_int_none  : isaD "int" .none = some (.bool false) := rfl
@[simp] theorem isa_int_bool (b : Bool) : isaD "int" (.bool b) = some (.bool true) := rfl
@[simp] theorem isa_int_int (i : Int) : isaD "int" (.int i) = some (.bool true) := rfl
@[simp] theorem isa_int_str (x : Str) : isaD "int" (.str x) = some (.bool false) := rfl
@[simp] theorem isa_int_list (xs : List PyData) : isaD "int" (.list xs) = some (.bool false) := rfl
@[simp] theorem isa_int_tuple (xs : List PyData) : isaD "int" (.tuple xs) = some (.bool false) := rfl
@[simp] theorem isa_int_dict (es : List (PyData × PyData)) : isaD "int" (.dict es) = some (.bool false) := rfl
@[simp] theorem isa_bool_none  : isaD "bool" .none = some (.bool false) := rfl
@[simp] theorem isa_bool_bool (b : Bool) : isaD "bool" (.bool b) = some (.bool true) := rfl
@[simp] theorem isa_bool_int (i : Int) : isaD "bool" (.int i) = some (.bool false) := rfl
@[simp] theorem isa_bool_str (x : Str) : isaD "bool" (.str x) = some (.bool false) := rfl
@[simp] theorem isa_bool_list (xs : List PyData) : isaD "bool" (.list xs) = some (.bool false) := rfl
@[simp] theorem isa_bool_tuple (xs : List PyData) : isaD "bool" (.tuple xs) = some (.bool false) := rfl
@[simp] theorem isa_bool_dict (es : List (PyData × PyData)) : isaD "bool" (.dict es) = some (.bool false) := rfl
@[simp] theorem isa_str_none  : isaD "str" .none = some (.bool false) := rfl
@[simp] theorem isa_str_bool (b : Bool) : isaD "str" (.bool b) = some (.bool false) := rfl
@[simp] theorem isa_str_int (i : Int) : isaD "str" (.int i) = some (.bool false) := rfl
@[simp] theorem isa_str_str (x : Str) : isaD "str" (.str x) = some (.bool true) := rfl
@[simp] theorem isa_str_list (xs : List PyData) : isaD "str" (.list xs) = some (.bool false) := rfl
@[simp] theorem isa_str_tuple (xs : List PyData) : isaD "str" (.tuple xs) = some (.bool false) := rfl
@[simp] theorem isa_str_dict (es : List (PyData × PyData)) : isaD "str" (.dict es) = some (.bool false) := rfl
@[simp] theorem isa_tuple_none  : isaD "tuple" .none = some (.bool false) := rfl
@[simp] theorem isa_tuple_bool (b : Bool) : isaD "tuple" (.bool b) = some (.bool false) := rfl
@[simp] theorem isa_tuple_int (i : Int) : isaD "tuple" (.int i) = some (.bool false) := rfl
@[simp] theorem isa_tuple_str (x : Str) : isaD "tuple" (.str x) = some (.bool false) := rfl
@[simp] theorem isa_tuple_list (xs : List PyData) : isaD "tuple" (.list xs) = some (.bool false) := rfl
@[simp] theorem isa_tuple_tuple (xs : List PyData) : isaD "tuple" (.tuple xs) = some (.bool true) := rfl
@[simp] theorem isa_tuple_dict (es : List (PyData × PyData)) : isaD "tuple" (.dict es) = some (.bool false) := rfl
@[simp] theorem isa_list_none  : isaD "list" .none = some (.bool false) := rfl
@[simp] theorem isa_list_bool (b : Bool) : isaD "list" (.bool b) = some (.bool false) := rfl
@[simp] theorem isa_list_int (i : Int) : isaD "list" (.int i) = some (.bool false) := rfl
@[simp] theorem isa_list_str (x : Str) : isaD "list" (.str x) = some (.bool false) := rfl
@[simp] theorem isa_list_list (xs : List PyData) : isaD "list" (.list xs) = some (.bool true) := rfl
@[simp] theorem isa_list_tuple (xs : List PyData) : isaD "list" (.tuple xs) = some (.bool false) := rfl
@[simp] theorem isa_list_dict (es : List (PyData × PyData)) : isaD "list" (.dict es) = some (.bool false) := rfl
@[simp] theorem isa_dict_none  : isaD "dict" .none = some (.bool false) := rfl
@[simp] theorem isa_dict_bool (b : Bool) : isaD "dict" (.bool b) = some (.bool false) := rfl
@[simp] theorem isa_dict_int (i : Int) : isaD "dict" (.int i) = some (.bool false) := rfl
@[simp] theorem isa_dict_str (x : Str) : isaD "dict" (.str x) = some (.bool false) := rfl
@[simp] theorem isa_dict_list (xs : List PyData) : isaD "dict" (.list xs) = some (.bool false) := rfl
@[simp] theorem isa_dict_tuple (xs : List PyData) : isaD "dict" (.tuple xs) = some (.bool false) := rfl
@[simp] theorem isa_dict_dict (es : List (PyData × PyData)) : isaD "dict" (.dict es) = some (.bool true) := rfl
@[simp] theorem isN_n : isNone .none = true := rfl
@[simp] theorem isN_bool (b : Bool) : isNone (.bool b) = false := rfl
@[simp] theorem isN_int (i : Int) : isNone (.int i) = false := rfl
@[simp] theorem isN_str (x : Str) : isNone (.str x) = false := rfl
@[simp] theorem isN_list (xs : List PyData) : isNone (.list xs) = false := rfl
@[simp] theorem isN_tuple (xs : List PyData) : isNone (.tuple xs) = false := rfl
@[simp] theorem isN_dict (es : List (PyData × PyData)) : isNone (.dict es) = false := rfl
end
section
variable [Wtp] [Tbl]
/-! ## the store -/
@[simp] theorem end_new (st : Sto) (o : Ob) : endS st.length (.rt (.w (.r st.length)) (st ++ [o])) = .ok (.r st.length) (st ++ [o]) := by
  rw [x_end_r (o := o) (Nat.le_refl _) (by simp)]
  simp
@[simp] theorem take_set {α : Type} (xs : List α) (p : Nat) (x : α) : (xs.set p x).take xs.length = xs.set p x := List.take_of_length_le (by simp)
theorem look_l {i : Nat} {st : Sto} {xs : List PyData} (h : st[i]? = some (.lst xs)) : look st (.r i) = some (.list xs) := by
  show (match st[i]? with
    | some (.lst xs) => some (PyData.list xs)
    | some (.dct kvs) => some (.dict kvs)
    | some (.dtt kvs) => some (.dict kvs)
    | some (.lkd kvs) => some (.dict kvs)
    | some (.lkl xs) => some (.list xs)
    | none => none) = _
  rw [h]
theorem look1_l {i : Nat} {st : Sto} {xs : List PyData} (h : st[i]? = some (.lst xs)) (f : PyData → Rs Wv) : look1 (.r i) st f = f (.list xs) := by
  unfold look1
  rw [look_l h]
theorem isLst_l {i : Nat} {st : Sto} {xs : List PyData} (h : st[i]? = some (.lst xs)) : isLst st (.r i) = true := by
  unfold isLst
  simp [h]
theorem appW_l {i : Nat} {st : Sto} {xs : List PyData} (h : st[i]? = some (.lst xs)) (hl : xs.length < 1000000) (y : PyData) : appW (.r i) [.d y] st = .ok (.d .none) (st.set i (.lst (xs ++ [y]))) := by
  unfold appW
  simp [h, hl]
theorem setW_l {i : Nat} {st : Sto} {xs : List PyData} (h : st[i]? = some (.lst xs)) {t : Int} {q : Nat} (hq : ixN xs.length t = some q) (y : PyData) : setW (.r i) (.d (.int t)) y st = some (st.set i (.lst (xs.set q y))) := by
  unfold setW
  simp [h, hq]
/-! ## pens: lists of three ints -/
def Pen (p : Nat) (st : Sto) : Prop := ∃ a b c : Int, st[p]? = some (.lst [.int a, .int b, .int c])
/-- only the pen at p is turned -/
structure Pn (p : Nat) (st st' : Sto) : Prop where
  len : st'.length = st.length
  pen : Pen p st'
  sm : ∀ i, i ≠ p → st'[i]? = st[i]?
/-- below n only the pen at p is turned -/
structure Px (p n : Nat) (st st' : Sto) : Prop where
  le : n ≤ st'.length
  pen : Pen p st'
  sm : ∀ i, i < n → i ≠ p → st'[i]? = st[i]?
section
variable {p n : Nat} {st st1 st2 : Sto}
theorem Pen.lt (h : Pen p st) : p < st.length := by
  obtain ⟨_, _, _, e⟩ := h
  exact (List.getElem?_eq_some_iff.mp e).1
theorem Pn.refl (h : Pen p st) : Pn p st st := ⟨rfl, h, fun _ _ => rfl⟩
theorem Pn.trans (a : Pn p st st1) (b : Pn p st1 st2) : Pn p st st2 := ⟨b.len.trans a.len, b.pen, fun i hi => (b.sm i hi).trans (a.sm i hi)⟩
theorem Pn.set (h : Pen p st) (a b c : Int) : Pn p st (st.set p (.lst [.int a, .int b, .int c])) :=
  ⟨by simp, ⟨a, b, c, List.getElem?_set_self h.lt⟩, fun i hi => List.getElem?_set_ne (Ne.symm hi)⟩
theorem Pen.app (h : Pen p st) (l : Sto) : Pen p (st ++ l) := by
  obtain ⟨a, b, c, e⟩ := id h
  exact ⟨a, b, c, by rw [List.getElem?_append_left h.lt]; exact e⟩
theorem Pen.put (h : Pen p st) {i : Nat} (hi : i ≠ p) (o : Ob) : Pen p (st.set i o) := by
  obtain ⟨a, b, c, e⟩ := id h
  exact ⟨a, b, c, by rw [List.getElem?_set_ne hi]; exact e⟩
theorem Px.refl (h : Pen p st) : Px p st.length st st := ⟨Nat.le_refl _, h, fun _ _ _ => rfl⟩
theorem Px.pn (a : Px p n st st1) (b : Pn p st1 st2) : Px p n st st2 := ⟨by rw [b.len]; exact a.le, b.pen, fun i hi hp => (b.sm i hp).trans (a.sm i hi hp)⟩
theorem Px.app (a : Px p n st st1) (l : Sto) : Px p n st (st1 ++ l) := ⟨by rw [List.length_append]; have := a.le; omega, a.pen.app l, fun i hi hp => by rw [List.getElem?_append_left (Nat.lt_of_lt_of_le hi a.le)]; exact a.sm i hi hp⟩
theorem Px.put (a : Px p n st st1) {i : Nat} (hi : n ≤ i) (hp : p < n) (o : Ob) : Px p n st (st1.set i o) :=
  ⟨by rw [List.length_set]; exact a.le, a.pen.put (by omega) o, fun j hj hq => by rw [List.getElem?_set_ne (by omega)]; exact a.sm j hj hq⟩
theorem Px.back (a : Px p st.length st st1) (hp : p < st.length) : Pn p st (st1.take st.length) := by
  have hl : (st1.take st.length).length = st.length := by rw [List.length_take]; have := a.le; omega
  refine ⟨hl, ?_, fun i hi => ?_⟩
  · obtain ⟨x, y, z, e⟩ := a.pen
    exact ⟨x, y, z, by rw [List.getElem?_take_of_lt hp]; exact e⟩
  · by_cases q : i < st.length
    · rw [List.getElem?_take_of_lt q]; exact a.sm i q hi
    · rw [List.getElem?_eq_none (by omega), List.getElem?_eq_none (by omega)]
theorem Pn.px (a : Pn p st st1) : Px p st.length st st1 := ⟨Nat.le_of_eq a.len.symm, a.pen, fun i _ hp => a.sm i hp⟩
end
theorem rg_ok {i : Int} (h1 : -1000000 ≤ i) (h2 : i ≤ 1000000) : rgOk i = true := by
  unfold rgOk
  rw [decide_eq_true (by omega), decide_eq_true (by omega)]
  rfl
theorem rg1_ok {i : Int} (st : Sto) (h1 : -1000000 ≤ i) (h2 : i ≤ 1000000) : rg1W [.d (.int i)] st = .ok ⟨rangeD 0 i.toNat, []⟩ st := by
  unfold rg1W
  simp [rg_ok h1 h2]
theorem rangeD_len (lo : Int) (n : Nat) : (rangeD lo n).length = n := by simp [rangeD]
theorem rangeD_get {lo : Int} {n i : Nat} {x : PyData} (h : (rangeD lo n)[i]? = some x) : i < n ∧ x = .int (lo + (i : Nat)) := by
  have hi : i < n := by have := (List.getElem?_eq_some_iff.mp h).1; rwa [rangeD_len] at this
  refine ⟨hi, ?_⟩
  unfold rangeD at h
  simp [hi] at h
  exact h.symm
theorem atD_mem {α : Type} {xs : List α} {i : Int} (h1 : 0 ≤ i) (h2 : i < xs.length) : ∃ x, x ∈ xs ∧ atD xs i = some x := by
  obtain ⟨k, rfl⟩ := Int.eq_ofNat_of_zero_le h1
  have hk : k < xs.length := by simpa using h2
  exact ⟨xs[k], List.getElem_mem hk, by rw [atD_nat, List.getElem?_eq_getElem hk]⟩
/-! ## loops on data -/
@[simp] theorem forL_nil (g : Wv → En → Option En) (b : En → Sto → SR) (env : En) (st : Sto) : forL g b [] [] env st = .nx env st := by simp [forL]
@[simp] theorem forL_cons (g : Wv → En → Option En) (b : En → Sto → SR) (x : PyData) (r : List PyData) (env : En) (st : Sto) : forL g b [] (x :: r) env st = match g (.d x) env with
    | some env1 => (b env1 st).seq (forL g b [] r)
    | none => .no := by cases h : g (.d x) env <;> simp [forL, h]
/-- every turn goes on -/
theorem forL_go {g : Wv → En → Option En} {b : En → Sto → SR} (I : En → Sto → Prop) : ∀ (xs : List PyData), (∀ x ∈ xs, ∀ env st, I env st → ∃ env1 env2 st2, g (.d x) env = some env1 ∧ b env1 st = .nx env2 st2 ∧ I env2 st2) →
    ∀ env st, I env st → ∃ env2 st2, forL g b [] xs env st = .nx env2 st2 ∧ I env2 st2
  | [], _, env, st, h => ⟨env, st, by simp, h⟩
  | x :: xs, q, env, st, h => by
    obtain ⟨env1, env2, st2, e1, e2, h2⟩ := q x (by simp) env st h
    obtain ⟨env3, st3, e3, h3⟩ := forL_go I xs (fun y hy => q y (by simp [hy])) env2 st2 h2
    exact ⟨env3, st3, by rw [forL_cons, e1]; simp [e2, e3], h3⟩
/-- every turn goes on, by its number -/
theorem forL_goI {g : Wv → En → Option En} {b : En → Sto → SR} (I : Nat → En → Sto → Prop) : ∀ (xs : List PyData) (k : Nat), (∀ i x, xs[i]? = some x → ∀ env st, I (k + i) env st → ∃ env1 env2 st2, g (.d x) env = some env1 ∧ b env1 st = .nx env2 st2 ∧ I (k + i + 1) env2 st2) →
    ∀ env st, I k env st → ∃ env2 st2, forL g b [] xs env st = .nx env2 st2 ∧ I (k + xs.length) env2 st2
  | [], k, _, env, st, h => ⟨env, st, by simp, h⟩
  | x :: xs, k, q, env, st, h => by
    obtain ⟨env1, env2, st2, e1, e2, h2⟩ := q 0 x rfl env st h
    obtain ⟨env3, st3, e3, h3⟩ := forL_goI I xs (k + 1) (fun i y hy env st hI => by
      have := q (i + 1) y (by simpa using hy) env st (by rw [show k + (i + 1) = k + 1 + i by omega]; exact hI)
      rw [show k + (i + 1) + 1 = k + 1 + i + 1 by omega] at this
      exact this) env2 st2 h2
    exact ⟨env3, st3, by rw [forL_cons, e1]; simp [e2, e3], by rw [List.length_cons, show k + (xs.length + 1) = k + 1 + xs.length by omega]; exact h3⟩
/-- a comprehension of a pure part -/
theorem lcL_map {g : Wv → En → Option En} {c : En → Sto → Rs Wv} {env : En} {st : Sto} {f : PyData → PyData} : ∀ (xs acc : List PyData), (∀ x ∈ xs, ∃ env1, g (.d x) env = some env1 ∧ c env1 st = .ok (.d (f x)) st) → lcL g tYs c [] env xs acc st = .ok (acc ++ xs.map f) st
  | [], acc, _ => by simp [lcL]
  | x :: xs, acc, q => by
    obtain ⟨env1, e1, e2⟩ := q x (by simp)
    have ih := lcL_map (f := f) (g := g) (c := c) (env := env) (st := st) xs (acc ++ [f x]) fun y hy => q y (by simp [hy])
    simp [lcL, e1, e2, ih]
theorem o_all' {α : Type} (xs : List α) (p : α → Bool) : allF [.list (xs.map fun x => .bool (p x))] = some (.bool (xs.all p)) := by
  have := o_all (xs.map p)
  rw [List.map_map] at this
  rw [show (fun x => PyData.bool (p x)) = PyData.bool ∘ p from rfl, this, List.all_map]
  rfl
theorem cutD_drop {α : Type} (xs : List α) (i : Nat) : cutD xs (some (i : Int)) none = xs.drop i := by
  unfold cutD
  rw [HT.sIx_nat, HT.sIx_none]
  rcases Nat.le_total i xs.length with h | h
  · rw [Nat.min_eq_left h, List.take_of_length_le (by simp)]
  · rw [Nat.min_eq_right h, List.drop_eq_nil_of_le h, List.drop_eq_nil_of_le (Nat.le_refl _)]; simp
theorem cutD_take {α : Type} (xs : List α) (i : Nat) : cutD xs none (some (i : Int)) = xs.take i := by
  unfold cutD
  rw [HT.sIx_nat, HT.sIx_none]
  simp
theorem cutD_len {α : Type} {xs : List α} {lo hi : Option Int} : (cutD xs lo hi).length ≤ xs.length := by
  unfold cutD
  rw [List.length_take, List.length_drop]
  omega
/-! ## what can be shown -/
structure Fd (k n : Nat) (d : PyData) : Prop where
  sh : d.showable = true
  hd : d.hasDict = false
  dp : d.depth ≤ k
  ln : d.shown.length ≤ n
theorem Fd.up {k k' n n' : Nat} {d : PyData} (f : Fd k n d) (h : k ≤ k') (h' : n ≤ n') : Fd k' n' d := ⟨f.sh, f.hd, Nat.le_trans f.dp h, Nat.le_trans f.ln h'⟩
theorem depthAll_le {k : Nat} : ∀ {xs : List PyData}, (∀ x ∈ xs, x.depth ≤ k) → PyData.depthAll xs ≤ k
  | [], _ => Nat.zero_le _
  | x :: xs, h => by
    rw [PyData.depthAll]
    exact Nat.max_le.mpr ⟨h x (by simp), depthAll_le fun y hy => h y (by simp [hy])⟩
/-! ## slots that nothing reads any more are given up -/
def sWp (vs : List Nat) (b : En → Sto → SR) : En → Sto → SR := fun env st => (b env st).seq fun env1 st1 => .nx (wipeE env1 vs) st1
def sWi (vs : List Nat) (b : En → Sto → SR) : En → Sto → SR := fun env st => b (wipeE env vs) st
theorem EnvR.less {K : Frg} {n : Nat} {H : Hp} {m : Mp} {env : En} {σ : L2.St} (h : EnvR K H m n env σ) (i : Nat) : EnvR K H m n (env.set i none) σ := by
  refine ⟨by simp [h.len], fun j u e => ?_⟩
  by_cases q : i = j
  · subst q
    by_cases l : i < env.length
    · rw [List.getElem?_set_self l] at e; cases e
    · rw [List.getElem?_eq_none (by simpa using l)] at e; cases e
  · rw [List.getElem?_set_ne q] at e
    exact h.at' j u e
theorem EnvR.lesss {K : Frg} {n : Nat} {H : Hp} {m : Mp} {env : En} {σ : L2.St} (h : EnvR K H m n env σ) : ∀ vs : List Nat, EnvR K H m n (wipeE env vs) σ
  | [] => h
  | i :: vs => (EnvR.lesss h vs).less i
theorem db_wp {X : Cx} {es : List Stmt} {c : En → Sto → SR} (vs : List Nat) (h : DB X es c) : DB X es (sWp vs c) := by
  refine ⟨fun W tk => PSs.imp (h.pss W tk) fun D σ H ⟨m, env, st, S, R, hp⟩ => ⟨m, env, st, S, R, ?_⟩⟩
  unfold sWp at hp
  rw [SR.post_seq] at hp
  exact SR.post_mono hp (fun env1 st1 q σ1 H1 m1 f1 S1 R1 => q σ1 H1 m1 f1 S1 (R1.lesss vs)) (fun _ _ q => q) fun _ _ q => q
theorem ds_wi {X : Cx} {e : Stmt} {c : En → Sto → SR} (vs : List Nat) (h : DS X e c) : DS X e (sWi vs c) :=
  ⟨fun W tk => PS.imp (h.ps W tk) fun D σ H ⟨m, env, st, S, R, hp⟩ => ⟨m, wipeE env vs, st, S, R.lesss vs, hp⟩⟩
@[simp] theorem x_wp (vs : List Nat) (b : En → Sto → SR) (env : En) (st : Sto) : sWp vs b env st = (b env st).seq fun env1 st1 => .nx (wipeE env1 vs) st1 := rfl
@[simp] theorem x_wi (vs : List Nat) (b : En → Sto → SR) (env : En) (st : Sto) : sWi vs b env st = b (wipeE env vs) st := rfl
@[simp] theorem wipe_nil (env : En) : wipeE env [] = env := rfl
@[simp] theorem wipe_cons (env : En) (i : Nat) (vs : List Nat) : wipeE env (i :: vs) = (wipeE env vs).set i none := rfl
/-- every turn goes on; what there is behind i turns is known -/
theorem forL_at {g : Wv → En → Option En} {b : En → Sto → SR} (E : Nat → En) (S : Nat → Sto) (xs : List PyData) (h : ∀ i x, xs[i]? = some x → ∃ env1, g (.d x) (E i) = some env1 ∧ b env1 (S i) = .nx (E (i + 1)) (S (i + 1))) :
    forL g b [] xs (E 0) (S 0) = .nx (E xs.length) (S xs.length) := by
  obtain ⟨env, st, e, rfl, rfl⟩ := forL_goI (g := g) (b := b) (fun i env st => env = E i ∧ st = S i) xs 0 (fun i x hx env st hI => by
    rw [Nat.zero_add] at hI ⊢
    obtain ⟨rfl, rfl⟩ := hI
    obtain ⟨env1, e1, e2⟩ := h i x hx
    exact ⟨env1, _, _, e1, e2, rfl, rfl⟩) (E 0) (S 0) ⟨rfl, rfl⟩
  rw [e, Nat.zero_add]
/-- a fold: the state is of a type of its own -/
theorem forL_fold {α β : Type} {g : Wv → En → Option En} {b : En → Sto → SR} (enc : α → PyData) (E : β → En) (S : β → Sto) (f : β → α → β) (I : β → Prop) : ∀ (L : List α), (∀ s a, a ∈ L → I s → ∃ env1, g (.d (enc a)) (E s) = some env1 ∧ b env1 (S s) = .nx (E (f s a)) (S (f s a)) ∧ I (f s a)) →
    ∀ s, I s → forL g b [] (L.map enc) (E s) (S s) = .nx (E (L.foldl f s)) (S (L.foldl f s)) ∧ I (L.foldl f s)
  | [], _, s, hs => ⟨by simp, hs⟩
  | a :: L, h, s, hs => by
    obtain ⟨env1, e1, e2, h2⟩ := h s a (by simp) hs
    obtain ⟨i1, i2⟩ := forL_fold enc E S f I L (fun s x hx => h s x (by simp [hx])) (f s a) h2
    exact ⟨by rw [List.map_cons, forL_cons, e1]; simp [e2, i1], i2⟩
/-- what a loop that only seeks gives -/
def seek (r : Option Rt) (env : En) (st : Sto) : SR := match r with
  | some r => .rt r st
  | none => .nx env st
@[simp] theorem seek_some (r : Rt) (env : En) (st : Sto) : seek (some r) env st = .rt r st := rfl
@[simp] theorem seek_none (env : En) (st : Sto) : seek none env st = .nx env st := rfl
theorem forL_seek {α : Type} {g : Wv → En → Option En} {b : En → Sto → SR} {env : En} {st : Sto} (enc : α → PyData) (q : α → Option Rt) : ∀ (L : List α), (∀ a ∈ L, ∃ env1, g (.d (enc a)) env = some env1 ∧ b env1 st = seek (q a) env st) →
    forL g b [] (L.map enc) env st = seek (L.findSome? q) env st
  | [], _ => by simp
  | a :: L, h => by
    obtain ⟨env1, e1, e2⟩ := h a (by simp)
    rw [List.map_cons, forL_cons, e1, List.findSome?_cons]
    dsimp only
    rw [e2]
    cases q a with
    | none => exact forL_seek enc q L fun x hx => h x (by simp [hx])
    | some r => rfl
/-- a comprehension of typed things -/
theorem lcL_mapE {α : Type} {g : Wv → En → Option En} {c : En → Sto → Rs Wv} {env : En} {st : Sto} (enc out : α → PyData) : ∀ (L : List α) (acc : List PyData), (∀ a ∈ L, ∃ env1, g (.d (enc a)) env = some env1 ∧ c env1 st = .ok (.d (out a)) st) → lcL g tYs c [] env (L.map enc) acc st = .ok (acc ++ L.map out) st
  | [], acc, _ => by simp [lcL]
  | a :: L, acc, q => by
    obtain ⟨env1, e1, e2⟩ := q a (by simp)
    have ih := lcL_mapE (g := g) (c := c) (env := env) (st := st) enc out L (acc ++ [out a]) fun y hy => q y (by simp [hy])
    simp [lcL, e1, e2, ih]
theorem lcL_filterE {α : Type} {g : Wv → En → Option En} {t : En → Sto → Rs Bool} {c : En → Sto → Rs Wv} {env : En} {st : Sto} (enc out : α → PyData) (p : α → Bool) : ∀ (L : List α) (acc : List PyData), (∀ a ∈ L, ∃ env1, g (.d (enc a)) env = some env1 ∧ t env1 st = .ok (p a) st ∧ (p a = true → c env1 st = .ok (.d (out a)) st)) →
    lcL g t c [] env (L.map enc) acc st = .ok (acc ++ (L.filter p).map out) st
  | [], acc, _ => by simp [lcL]
  | a :: L, acc, q => by
    obtain ⟨env1, e1, e2, e3⟩ := q a (by simp)
    have ih := lcL_filterE (g := g) (t := t) (c := c) (env := env) (st := st) enc out p L
    cases hp : p a with
    | true => simp [lcL, e1, e2, hp, e3 hp, ih (acc ++ [out a]) fun y hy => q y (by simp [hy])]
    | false => simp [lcL, e1, e2, hp, ih acc fun y hy => q y (by simp [hy])]
end
section
variable [Wtp] [Tbl]
/-! ## new lists of the store that an operation makes -/
def mulN : PyData → PyData → Option (List PyData)
  | .list xs, .int k => if 0 ≤ k ∧ k ≤ 1000 ∧ xs.length ≤ 1000 then some (List.replicate k.toNat xs).flatten else none
  | _, _ => none
def newO (r : Option (List PyData)) (st : Sto) : Rs Wv := match r with
  | some xs => .ok (.r st.length) (st ++ [.lst xs])
  | none => .no
@[simp] theorem newO_some (xs : List PyData) (st : Sto) : newO (some xs) st = .ok (.r st.length) (st ++ [.lst xs]) := rfl
def eOp2N (f : PyData → PyData → Option (List PyData)) (ca cb : En → Sto → Rs Wv) : En → Sto → Rs Wv := fun env st => (ca env st).bind fun a st1 => (cb env st1).bind fun b st2 => look1 a st2 fun d => look1 b st2 fun e => newO (f d e) st2
def eOpNN (f : List PyData → Option (List PyData)) (cs : En → Sto → Rs (List Wv)) : En → Sto → Rs Wv := fun env st => (cs env st).bind fun ws st1 => match looks ws st1 with
  | some ds => newO (f ds) st1
  | none => .no
@[simp] theorem x_op2n (f : PyData → PyData → Option (List PyData)) (a b : En → Sto → Rs Wv) (env : En) (st : Sto) : eOp2N f a b env st = (a env st).bind fun v st1 => (b env st1).bind fun w st2 => look1 v st2 fun d => look1 w st2 fun e => newO (f d e) st2 := rfl
@[simp] theorem x_opnn (f : List PyData → Option (List PyData)) (c : En → Sto → Rs (List Wv)) (env : En) (st : Sto) : eOpNN f c env st = (c env st).bind fun ws st1 => match looks ws st1 with
  | some ds => newO (f ds) st1
  | none => .no := rfl
@[simp] theorem o_mulN (xs : List PyData) (k : Int) : mulN (.list xs) (.int k) = if 0 ≤ k ∧ k ≤ 1000 ∧ xs.length ≤ 1000 then some (List.replicate k.toNat xs).flatten else none := rfl
def nOut (K : Frg) (H : Hp) (Z : Addr → Prop) (xs : List PyData) (Q : VK) : Prop := ∀ p vs, H p = none → RpA K H Z vs xs → Q (.ref p) (upd H p (.lst vs))
def rNwN (K : Frg) (f : List PyData → Option (List PyData)) : List V → Hp → VK → Prop := fun vs H Q => ∃ Z ds xs, RTs K H Z vs ds ∧ f ds = some xs ∧ nOut K H Z xs Q
section
variable {M : Md} {X : Cx} {B : Tb} {k : Nat} {σ : L2.St} {H : Hp} {m : Mp} {W : WX} {ca cb : En → Sto → Rs Wv} {cs : En → Sto → Rs (List Wv)} {pos p : Pos} {a b : Expr}
def slDN (lo hi : Option Int) : PyData → Option (List PyData)
  | .list xs => some (cutD xs lo hi)
  | _ => none
def eSliceN (c : En → Sto → Rs Wv) (l h : En → Sto → Rs (Option Int)) : En → Sto → Rs Wv := fun env st => (c env st).bind fun w st1 => (l env st1).bind fun lo st2 => (h env st2).bind fun hi st3 => look1 w st3 fun d => newO (slDN lo hi d) st3
@[simp] theorem o_slDN (lo hi : Option Int) (xs : List PyData) : slDN lo hi (.list xs) = some (cutD xs lo hi) := rfl
@[simp] theorem x_sliceN (env : En) (st : Sto) (c : En → Sto → Rs Wv) (l h : En → Sto → Rs (Option Int)) : eSliceN c l h env st = ((c env st).bind fun w st1 => (l env st1).bind fun i st2 => (h env st2).bind fun j st3 => look1 w st3 fun d => newO (slDN i j d) st3) := rfl
/-! a, b = x, y where a name lies in a cell: stores' lists too -/
def gWNl : List Wv → En → Option En := fun ws env => match ws with
  | [] => some env
  | _ => none
def gWCn (g : Wv → En → Option En) (h : List Wv → En → Option En) : List Wv → En → Option En := fun ws env => match ws with
  | w :: r => (g w env).bind (h r)
  | [] => none
def sAsgW (g : List Wv → En → Option En) (cs : En → Sto → Rs (List Wv)) : En → Sto → SR := fun env st => (cs env st).sb fun ws st1 => match g ws env with
  | some env' => .nx env' st1
  | none => .no
@[simp] theorem x_asgW (g : List Wv → En → Option En) (cs : En → Sto → Rs (List Wv)) (env : En) (st : Sto) : sAsgW g cs env st = (cs env st).sb fun ws st1 => match g ws env with | some env' => .nx env' st1 | none => .no := rfl
@[simp] theorem x_gWNl (env : En) : gWNl [] env = some env := rfl
@[simp] theorem x_gWCn (g : Wv → En → Option En) (h : List Wv → En → Option En) (w : Wv) (r : List Wv) (env : En) : gWCn g h (w :: r) env = (g w env).bind (h r) := rfl
end
/-! ## a, b = x, y where one of the names is captured -/
/-! ## a comprehension that draws -/
/-! ## loops over lists of the store -/
theorem atD_last {α : Type} (xs : List α) (z : α) : atD (xs ++ [z]) (-1) = some z := by
  unfold atD ixN
  have hl : (xs ++ [z]).length = xs.length + 1 := by simp
  rw [if_neg (by decide), if_pos (by rw [hl]; omega)]
  have e : (-1 + (((xs ++ [z]).length : Nat) : Int)).toNat = xs.length := by rw [hl]; omega
  show (xs ++ [z])[(-1 + (((xs ++ [z]).length : Nat) : Int)).toNat]? = some z
  rw [e]
  simp
end
section
variable [Wtp] [Tbl]
/-! ### {k: v, ..} that nobody writes -/
def pairsW : List Wv → Option (List (PyData × PyData))
  | [] => some []
  | .d c :: .d y :: ws => match keyD c, pairsW ws with
    | some _, some es => some ((c, y) :: es)
    | _, _ => none
  | _ => none
def mergeD (es more : List (PyData × PyData)) : List (PyData × PyData) := more.foldl (fun acc e => match keyD e.1 with
  | some k => dPut acc k e.1 e.2
  | none => acc) es
def dicW (ws : List Wv) (st : Sto) : Rs Wv := match pairsW ws with
  | some es => if es.length ≤ 15 then .ok (.d (.dict (mergeD [] es))) st else .no
  | none => .no
def eDic (cs : En → Sto → Rs (List Wv)) : En → Sto → Rs Wv := fun env st => (cs env st).bind dicW
@[simp] theorem x_dic (env : En) (st : Sto) (cs : En → Sto → Rs (List Wv)) : eDic cs env st = (cs env st).bind dicW := rfl
def pairUp : List V → List (V × V)
  | x :: y :: r => (x, y) :: pairUp r
  | _ => []
structure DP (X : Cx) (keys : List (Option Expr)) (vals : List Expr) (cs : En → Sto → Rs (List Wv)) : Prop where
  all : keys.all (·.isSome) = true
  len : keys.length = vals.length
  pp : ∀ W, Takes X W → ∃ trs : List (TE × TE), (∀ pos, PPs X pos keys vals trs) ∧ ∀ σ H Q, tA X W cs σ H (fun vs H' => Q (pairUp vs) H') → tPairs trs σ H Q
section
variable {X : Cx} {pos : Pos}
theorem dp_nil : DP X [] [] aNil := ⟨rfl, rfl, fun W tk => ⟨[], fun _ => pps_nil, fun σ H Q ⟨m, env, st, S, R, hp⟩ => hp [] H m .refl S .nil⟩⟩
theorem dp_cons {k v : Expr} {ks : List (Option Expr)} {vs : List Expr} {ck cv : En → Sto → Rs Wv} {cs : En → Sto → Rs (List Wv)} (hk : DE X k ck) (hv : DE X v cv) (hr : DP X ks vs cs) : DP X (some k :: ks) (v :: vs) (aCons ck (aCons cv cs)) := by
  refine ⟨by rw [List.all_cons, hr.all]; rfl, by rw [List.length_cons, List.length_cons, hr.len], fun W tk => ?_⟩
  obtain ⟨trs, h1, h2⟩ := hr.pp W tk
  refine ⟨(tE X W ck, tE X W cv) :: trs, fun pos => pps_cons (hk.pe W tk) (hv.pe W tk) (h1 pos), fun σ H Q ⟨m, env, st, S, R, hp⟩ => ?_⟩
  unfold aCons at hp
  rw [Rs.post_bind] at hp
  refine ⟨m, env, st, S, R, Rs.post_mono hp (fun w st1 q v H1 m1 f1 S1 r1 => ?_) fun _ _ q => q⟩
  rw [Rs.post_bind, Rs.post_bind] at q
  refine ⟨m1, env, st1, S1, R.mv f1, Rs.post_mono q (fun w2 st2 q v2 H2 m2 f2 S2 r2 => ?_) fun _ _ q => okX.tr f1 q⟩
  rw [Rs.post_bind] at q
  refine h2 _ _ _ ⟨m2, env, st2, S2, (R.mv f1).mv f2, Rs.post_mono q (fun ws st3 q vs H3 m3 f3 S3 r3 => ?_) fun _ _ q => okX.tr (f1.trans f2) q⟩
  exact q (v :: v2 :: vs) H3 m3 ((f1.trans f2).trans f3) S3 (.cons ((r1.mv f2).mv f3) (.cons (r2.mv f3) r3))
theorem Kp.pushK {K : Frg} {m : Mp} {H : Hp} {n : Nat} {D : Addr} {xs ys : List (Key × V)} (hF : m.F D) (hD : H D = some (.dK ys)) : Kp K H (Off m n) (upd H D (.dK xs)) (Off m n) := by
  refine ⟨fun a us h => ?_, fun a o u h => ?_, fun a o _ h z => ⟨?_, z⟩⟩
  · rw [upd_ne]; exact h
    intro e; rw [e, hD] at h; cases h
  · rw [upd_ne]; exact h
    intro e; rw [e, hD] at h; cases h
  · rw [upd_ne]; exact h
    exact fun e => z.2 (e ▸ hF)
theorem Sim.pushK {K : Frg} {m : Mp} {H : Hp} {st : Sto} {D : Addr} {xs ys : List (Key × V)} (S : Sim K H m st) (hF : m.F D) (hD : H D = some (.dK ys)) : Sim K (upd H D (.dK xs)) m st := by
  have kp := Kp.pushK (K := K) (n := st.length) (xs := xs) hF hD
  refine ⟨fun i u e => ?_, S.inj, fun a z => ?_, S.fi, S.tb.wr hD (.inr (.inl ⟨_, rfl⟩))⟩
  · have h := S.ob i u e
    have hi : i < st.length := (List.getElem?_eq_some_iff.mp e).1
    have hx : m.ix i ≠ D := fun e => S.fi i hi (e ▸ hF)
    cases u with
    | lst xs => obtain ⟨vs, h1, h2⟩ := h; exact ⟨vs, by rw [upd_ne hx]; exact h1, h2.mv kp⟩
    | dct kvs => obtain ⟨vs, h1, h2⟩ := h; exact ⟨vs, by rw [upd_ne hx]; exact h1, RpK.kp kp _ _ h2⟩
    | dtt kvs => obtain ⟨vs, h1, h2⟩ := h; exact ⟨vs, by rw [upd_ne hx]; exact h1, RpT.kp kp _ _ h2⟩
    | lkd es => exact Rp.mv h kp
    | lkl xs => exact FzL.mv h kp
  · by_cases e : a = D
    · rw [e]; exact ⟨_, upd_same, nt_dK⟩
    · obtain ⟨o, h, nt⟩ := S.ff a z
      exact ⟨o, by rw [upd_ne e]; exact h, nt⟩
theorem pairs_rp {Z : Addr → Prop} {H H' : Hp} {m : Mp} {n : Nat} (kp : Kp X.K H (Off m n) H' Z) : ∀ {ws : List Wv} {vs : List V} {es : List (PyData × PyData)}, RWs X.K H m n vs ws → pairsW ws = some es →
    ∃ kvs : List (Key × V), pairUp vs = kvs.map (fun kv => (kV kv.1, kv.2)) ∧ kvs.length = es.length ∧ ∀ kvs0 es0, RpK X.K H' Z kvs0 es0 → RpK X.K H' Z (mergeK kvs0 kvs) (mergeD es0 es)
  | [], _, _, .nil, e => by cases e; exact ⟨[], rfl, rfl, fun _ _ h => h⟩
  | [.d c], _, _, .cons _ .nil, e => by cases e
  | .d c :: .d y :: ws, _, es, .cons (v := v1) r1 (.cons (v := v2) (vs := vs) r2 r3), e => by
    unfold pairsW at e
    split at e
    · rename_i k es1 hk h1
      cases e
      obtain ⟨kvs, e1, e2, q⟩ := pairs_rp kp r3 h1
      have e3 : v1 = kV k := keyD_v (.inl r1) hk
      refine ⟨(k, v2) :: kvs, ?_, by rw [List.length_cons, List.length_cons, e2], fun kvs0 es0 h0 => ?_⟩
      · rw [pairUp, e1, List.map_cons, e3]
      · have h3 := q _ _ (rpk_put hk (Rp.kp kp _ _ r2) h0)
        unfold mergeD mergeK at h3 ⊢
        rw [List.foldl_cons, List.foldl_cons]
        simp only [hk]
        exact h3
    · cases e
  | .d c :: .r i :: ws, _, _, .cons _ (.cons _ _), e => by cases e
  | .r i :: ws, _, _, .cons _ _, e => by cases e
theorem de_dic {keys : List (Option Expr)} {vals : List Expr} {cs : En → Sto → Rs (List Wv)} (h : DP X keys vals cs) (h0 : keys ≠ [] := by exact fun z => nomatch z) (h15 : keys.length ≤ 15 := by decide) : DE X (.Dict keys vals pos) (eDic cs) := by
  refine ⟨fun W tk => ?_⟩
  obtain ⟨trs, h1, h2⟩ := h.pp W tk
  refine PE.imp (pe_freeze (pe_disp (h1 pos) h.all h.len h0 h15)) fun σ H Q ⟨m, env, st, S, R, hp⟩ => ?_
  unfold eDic at hp
  rw [Rs.post_bind] at hp
  intro p hn
  obtain ⟨S0, f0⟩ := S.start (o := .dK []) hn
  refine h2 _ _ _ ⟨m.with p, env, st, S0, R.mv f0, Rs.post_mono hp (fun ws st1 q vs H1 m1 f1 S1 r1 => ?_) fun _ _ q => okX.tr f0 q⟩
  unfold dicW at q
  split at q
  · rename_i es he
    split at q
    · rename_i hl
      have hp0 : Nn (upd H p (.dK [])) p := ⟨_, upd_same, nt_dK⟩
      have F1 : m1.F p := (f1.eF p hp0).mpr (.inr rfl)
      have hx : ∀ i, i < st1.length → m1.ix i ≠ p := fun i hi e => S1.fi i hi (e ▸ F1)
      have hD : H1 p = some (.dK []) := f1.rest p _ nt_dK upd_same (fun i hi e => nn_no hn (by have := S.there hi; rwa [show m.ix i = p from e] at this))
      have kp0 : ∀ xs, Kp X.K H1 (Off m1 st1.length) (upd H1 p (.dK xs)) (Off (m1.done p) st1.length) := fun xs => by
        have k := Kp.pushK (K := X.K) (n := st1.length) (xs := xs) F1 hD
        exact ⟨k.1, k.2, fun a o nt h z => ⟨(k.3 a o nt h z).1, off_done a (k.3 a o nt h z).2⟩⟩
      obtain ⟨kvs, e1, e2, -⟩ := pairs_rp (kp0 []) r1 he
      refine ⟨hD, kvs, e1, by omega, p, .dK (mergeK [] kvs), rfl, upd_same, .inl ⟨_, rfl⟩, fun o => ?_⟩
      have eU : upd (upd H1 p (.dK (mergeK [] kvs))) p (.frz o (.dK (mergeK [] kvs))) = upd H1 p (.frz o (.dK (mergeK [] kvs))) := by funext b; by_cases z : b = p <;> simp [upd, z]
      rw [eU]
      have kF : Kp X.K H1 (Off m1 st1.length) (upd H1 p (.frz o (.dK (mergeK [] kvs)))) (Off (m1.done p) st1.length) := by
        rw [← fz_one]
        exact (kp0 _).trans (fz_kp fun _ z => z)
      obtain ⟨kvs', e1', e2', qq⟩ := pairs_rp kF r1 he
      have ek : kvs' = kvs := by
        have h := e1'.symm.trans e1
        exact (List.map_inj_right (fun a b z => by
          obtain ⟨a1, a2⟩ := a
          obtain ⟨b1, b2⟩ := b
          simp only [Prod.mk.injEq] at z ⊢
          exact ⟨kV_inj z.1, z.2⟩)).mp h
      subst ek
      have S2 : Sim X.K (upd H1 p (.dK (mergeK [] kvs'))) (m1.done p) st1 := (S1.pushK F1 hD).sub rfl fun a z => z.1
      have S3 := S2.fz' (n := st1.length) (os := fun _ => o) (as := [p]) (Nat.le_refl _) (fun i hi z => hx i hi (List.mem_singleton.mp z))
      rw [fz_one, List.take_length] at S3
      exact q _ _ (m1.done p) (((f0.trans f1).done (nn_no hn)).updD (nn_no hn)) S3 (.dic upd_same (qq _ _ .nil))
    · exact q.elim
  · exact q.elim
end
/-! ### least and greatest of a list -/
open PySem.W in
def alikeB (xs : List PyData) : Bool := xs.all (fun x => xs.all (alike x)) && xs.all (fun x => match x with | .none => false | _ => true)
open PySem.W in
theorem alikeB_all {xs : List PyData} (h : alikeB xs = true) : AlikeAll xs := by
  unfold alikeB at h
  rw [Bool.and_eq_true, List.all_eq_true, List.all_eq_true] at h
  exact ⟨fun x hx y hy => List.all_eq_true.mp (h.1 x hx) y hy, fun x hx e => by have := h.2 x hx; subst e; cases this⟩
open PySem.W in
theorem minD_mem : ∀ (x : PyData) (xs : List PyData), minD x xs ∈ x :: xs
  | x, [] => by simp [minD]
  | x, y :: ys => by
    have h := minD_mem (if dataLt y x then y else x) ys
    have e : minD x (y :: ys) = minD (if dataLt y x then y else x) ys := rfl
    rw [e]
    rcases List.mem_cons.mp h with h | h
    · rw [h]; split
      · simp
      · simp
    · exact List.mem_cons_of_mem _ (List.mem_cons_of_mem _ h)
open PySem.W in
def bestF (f : PyData → List PyData → PyData) : List PyData → Option PyData
  | [d] => match seqOf d with
    | some (x :: xs) => if alikeB (x :: xs) = true ∧ PyData.depthAll (x :: xs) ≤ 40 then some (f x xs) else none
    | _ => none
  | _ => none
section
variable {X : Cx} {pins : List (Addr × Obj)} {s : Shared} {σ : L2.St} {H : Hp} {Z : Addr → Prop}
theorem vals_back : ∀ {xs : List V} {us : List Value} {i : Nat} {u : Value}, Vals xs us → us[i]? = some u → ∃ x, xs[i]? = some x ∧ RelV x u
  | _, _, _, _, .nil, e => by simp at e
  | _, _, 0, _, .cons r _, e => by simp at e; subst e; exact ⟨_, rfl, r⟩
  | _, _, i + 1, _, .cons _ r, e => by simp at e; simpa using vals_back r e
open PySem.W in
theorem pick_out (I : Inv X pins σ H s) {vs : List V} {xs : List PyData} {its : List Value} (r : RpA X.K H Z vs xs) (rv : Vals vs its) (hal : AlikeAll xs) {d : PyData} (hd : d ∈ xs) {i : Nat} {u : Value} (hu : its[i]? = some u) {h' : Heap} {bs : List Addr} (q : Reads h' u d bs)
    (hk : ∀ b o, s.heap.get? b = some o → h'.get? b = some o) : ∃ v, RelV v u ∧ Rp X.K H Z v d := by
  obtain ⟨v, hv, rel⟩ := vals_back rv hu
  have hi : i < xs.length := by rw [← r.len]; exact (List.getElem?_eq_some_iff.mp hv).1
  obtain ⟨v', hv', rp⟩ := r.get (List.getElem?_eq_getElem hi)
  rw [hv] at hv'
  cases hv'
  obtain ⟨as, q2⟩ := Rp.reads I _ v u rp rel
  have e := alike_unique xs[i] d u as bs (hal.1 _ (List.getElem_mem hi) _ hd) (reads_keeps hk q2) q
  exact ⟨v, rel, e ▸ rp⟩
open PySem.W in
theorem c_min1 {k : Nat} (hc : X.calm = true) (hr : L2H.RoomH k X.A) : CallR X (.builtin "min") (rN X.K (bestF minD)) := by
  intro pins s σ H xs us Q I r ⟨Z, ds, e, hz, hd, hf, ho⟩
  have hu := room_eq hr (show 60 ≤ 60 by decide)
  unfold bestF at hf
  split at hf
  · obtain ⟨v, rfl, h⟩ := rts1 hd
    split at hf
    · rename_i x xs q
      split at hf
      · rename_i hc2
        cases hf
        have ha := alikeB_all hc2.1
        have h40 := hc2.2
        unfold seqOf at q
        split at q
        · cases q
          obtain ⟨a, vs, rfl, h1, h2⟩ := h.lst
          obtain ⟨its, rv, hl, _⟩ := I.list h1.sq
          obtain ⟨as, rd⟩ := RpA.reads I _ vs its h2 rv
          rw [Vals.ref1 r]
          refine min_list_data (I.ok.hd hc) hl.isList rd ha (by show X.A.units + 1 + _ < cLine; omega) fun i v h' tk bs hi q hk => ?_
          obtain ⟨w, rel, rp⟩ := pick_out I h2 rv ha (minD_mem x xs) (by simpa using hi) q hk
          exact ⟨w, H, I.kept (t' := tk) hk, rel, rout_here ho rp⟩
        · cases q
          obtain ⟨a, vs, rfl, h1, h2⟩ := h.tup
          obtain ⟨its, rv, hl, _⟩ := I.tuple h1
          obtain ⟨as, rd⟩ := RpA.reads I _ vs its h2 rv
          rw [Vals.ref1 r]
          refine min_tuple_data (I.ok.hd hc) hl rd ha (by show X.A.units + 1 + _ < cLine; omega) fun i v h' tk bs hi q hk => ?_
          obtain ⟨w, rel, rp⟩ := pick_out I h2 rv ha (minD_mem x xs) (by simpa using hi) q hk
          exact ⟨w, H, I.kept (t' := tk) hk, rel, rout_here ho rp⟩
        · cases q
      · cases hf
    · cases hf
  · cases hf
end
end
section
variable [Wtp] [Tbl]
/-! ### sorted -/
def sortD (b : Bool) (xs : List PyData) : List PyData := xs.mergeSort (PySem.W.dataLe b id)
def sortB (xs : List PyData) : Bool := xs.all (fun x => xs.all (PySem.W.alike x)) && (xs.all (fun d => match d with | .tuple (_ :: _) => true | _ => false) || xs.all fun d => match d with | .none => false | .tuple _ => false | _ => true)
theorem sortB_all {xs : List PyData} (h : sortB xs = true) : PySem.W.AllAlike xs ∧ PySem.W.Sortable xs := by
  unfold sortB at h
  rw [Bool.and_eq_true, Bool.or_eq_true, List.all_eq_true, List.all_eq_true, List.all_eq_true] at h
  obtain ⟨h1, h2⟩ := h
  refine ⟨fun x hx y hy => List.all_eq_true.mp (h1 x hx) y hy, ?_⟩
  rcases h2 with h2 | h2
  · refine .inl fun d hd => ?_
    have := h2 d hd
    split at this
    · exact ⟨_, _, rfl⟩
    · cases this
  · refine .inr fun d hd => ?_
    have := h2 d hd
    split at this
    · cases this
    · cases this
    · rename_i a b
      exact ⟨a, b⟩
def srtN (b : Bool) : List PyData → Option (List PyData)
  | [d] => match seqOf d with
    | some xs => if sortB xs = true ∧ PyData.depthAll xs ≤ 40 ∧ xs.length ≤ 1000000 then some (sortD b xs) else none
    | none => none
  | _ => none
theorem depthAll_get {k : Nat} : ∀ {xs : List PyData}, PyData.depthAll xs ≤ k → ∀ x ∈ xs, x.depth ≤ k
  | [], _, x, h => absurd h List.not_mem_nil
  | y :: ys, h, x, hx => by
    rw [PyData.depthAll] at h
    rcases List.mem_cons.mp hx with rfl | hx
    · exact Nat.le_trans (Nat.le_max_left _ _) h
    · exact depthAll_get (Nat.le_trans (Nat.le_max_right _ _) h) x hx
section
open PySem.W
variable {prog : Program} {w : World} {A : Around} {E : Value → Shared → Prop} {s : Shared} {β : Type} {vs : List Value} {bs : List β} {enc : β → PyData} {R : Value → β → Prop}
theorem sortedHeap_at' {h : Heap} {a : Addr} {vs : List Value} {out : Array Value} {xs : Array Value} {n : Nat} (ho : h.get? a = some (seqObj "list" xs n)) : ∃ e, (sortedHeap h a vs out).get? a = some (seqObj "list" out e) := by
  unfold sortedHeap
  have h1 : (h.update a (Obj.mapSeq fun _ => #[])).get? a = some (Obj.mapSeq (fun _ => #[]) (seqObj "list" xs n)) := Heap.get?_update_self _ ho rfl
  have h2 := Heap.get?_push_of_some (seqObj "list" #[] 0) (Heap.get?_push_of_some (seqObj "tuple" vs.toArray 0) h1)
  have h3 := Heap.get?_update_self (Obj.mapSeq fun _ => out) h2 rfl
  exact ⟨_, h3⟩
theorem sortedHeap_old' {h : Heap} {a b : Addr} {vs : List Value} {out : Array Value} {o : Obj} (hb : b ≠ a) (e : h.get? b = some o) : (sortedHeap h a vs out).get? b = some o := by
  unfold sortedHeap
  rw [Heap.get?_update_ne _ _ _ _ hb]
  refine Heap.get?_push_of_some _ (Heap.get?_push_of_some _ ?_)
  rw [Heap.get?_update_ne _ _ _ _ hb]
  exact e
/-- the items of a list or a tuple, collected: where the new list lies -/
theorem gather {Q : List Value → Shared → Prop} {q : Addr} {T : String} {o : Obj} {xs : Array Value} {n : Nat} (hT : T = "list" ∨ T = "tuple") (ho : s.heap.get? q = some o) (hc : o.cls = .type T) (hd : o.data = .seq xs n) (hz : xs.size ≤ sizeLine)
    (fin : ∀ h', h'.objs.size = s.heap.objs.size + 1 → (∀ b u, s.heap.get? b = some u → h'.get? b = some u) → Q xs.toList { s with heap := h' }) : wpAny (model prog w) A (collect (.ref q)) Q E s := by
  generalize hp1 : s.heap.push { cls := .type "list", data := .seq ([] : List Value).toArray } = h1
  have at1 : h1.get? s.heap.objs.size = some { cls := .type "list", data := .seq #[] 0 } := by rw [← hp1]; exact Heap.get?_push_size _ rfl
  have kp1 : ∀ b u, s.heap.get? b = some u → h1.get? b = some u := fun b u e => by rw [← hp1]; exact Heap.get?_push_of_some _ e
  generalize hp2 : h1.update s.heap.objs.size (Obj.mapSeq (· ++ xs)) = h2
  have at2 := Heap.get?_update_self (Obj.mapSeq (· ++ xs)) at1 rfl
  rw [hp2] at at2
  have done : wpAny (model prog w) A (match Value.ref s.heap.objs.size with
      | Value.ref a => (do let u ← load a
                           match u.data with
                            | Data.seq zs _ => pure zs.toList
                            | _ => unsupported "internal:collect")
      | _ => unsupported "internal:collect") Q E { s with heap := h2 } := by
    show wpAny _ A (load s.heap.objs.size >>= _) _ _ { s with heap := h2 }
    refine wpAny_bind (wpAny_load at2 (wpAny_pure ?_))
    have e0 : (#[] : Array Value) ++ xs = xs := by simp
    show Q ((#[] : Array Value) ++ xs).toList { s with heap := h2 }
    rw [e0]
    refine fin h2 ?_ fun b u e => ?_
    · rw [← hp2, Heap.size_update, ← hp1, size_push']
    · rw [← hp2, Heap.get?_update_ne _ _ _ _ (Nat.ne_of_lt (Heap.lt_size e))]
      exact kp1 b u e
  unfold collect
  refine wpAny_bind (wpAny_runValue (codeAny_builtin PySem.F.entry_proto_collect ?_))
  rw [Around.under_plainId PySem.F.plain_proto_collect _]
  show wpAny _ A.in1 (newList [] >>= fun z => again (.builtin "list.__iadd__" ⟨[z, .ref q], []⟩)) _ _ s
  refine wpAny_bind (wpAny_newObj_type (wpAny_pure ⟨plainId_quiet PySem.F.plain_list_iadd _, codeAny_builtin PySem.F.entry_list_iadd ?_⟩))
  rw [Around.under_plainId PySem.F.plain_list_iadd _, hp1]
  show wpAny _ A.in1 (Builtin.List.listExtendWith (.ref s.heap.objs.size) (.ref q) (.ref s.heap.objs.size)) _ _ { s with heap := h1 }
  refine wpAny_mono (wpAny_extend_seq (A := A) (s := { s with heap := h1 }) (R := fun r t => r = .ok (.ret (.ref s.heap.objs.size)) ∧ t = { s with heap := h2 }) s.heap.objs.size q _ 0 hT at1 (kp1 _ _ ho) hc hd ⟨rfl, by rw [← hp2]⟩ (hsz := hz)) (fun r t ht => ?_) fun r t ht => absurd ht.1 (by simp)
  cases r with
  | again c => exact ⟨ht.1, codeAny_mono ht.2 fun r2 t2 ⟨e1, e2⟩ => by subst e1 e2; exact done⟩
  | done z =>
    obtain ⟨e1, e2⟩ := ht
    subst e2
    cases e1
    exact done
/-- sorted of a list or a tuple -/
theorem sorted_seq {l : Addr} {T : String} {o : Obj} {n : Nat} {kw : List (Str × Value)} {b : Bool} {Q : Value → Shared → Prop} (hT : T = "list" ∨ T = "tuple") (ho : s.heap.get? l = some o) (hc : o.cls = .type T) (hd : o.data = .seq vs.toArray n)
    (hk : ∀ x, Builtin.«list.sort» ⟨[.ref x], kw⟩ = Builtin.«list.sort» ⟨[.ref x], [(Str.ofString "reverse", .bool b)]⟩) (ha1 : argsOk "sorted" ⟨[.ref l], kw⟩) (ha2 : ∀ x, argsOk "list.sort" ⟨[.ref x], kw⟩)
    (e : EachIs R vs bs) (er : EachIs (fun v b => ∃ as, Reads s.heap v (enc b) as) vs bs) (hal : AllAlike (bs.map enc)) (hs : Sortable (bs.map enc)) (hL : bs.length ≤ sizeLine) (hu : ∀ b, b ∈ bs → A.units + 2 + (enc b).depth < cLine)
    (h : ∀ (h' : Heap) p out ep, s.heap.objs.size ≤ p → (∀ b o, s.heap.get? b = some o → h'.get? b = some o) → h'.get? p = some (seqObj "list" (List.toArray out) ep) → out.length = bs.length → EachIs R out (bs.mergeSort (dataLe b enc)) → Q (.ref p) { s with heap := h' }) :
    wpAny (model prog w) A (call (.builtin "sorted") [.ref l] kw) Q E s := by
  have hz : vs.length ≤ sizeLine := by rw [e.length]; exact hL
  refine call_function_entry_kw kind_sorted plain_sorted entry_sorted ha1 ?_
  unfold Builtin.«sorted»
  refine wpAny_bind (m := checkCount "sorted" 1 1 _) (wpAny_pure ?_)
  refine wpAny_bind (gather hT ho hc hd (by simpa using hz) fun h1 hsz kp => ?_)
  rw [show vs.toArray.toList = vs by simp]
  refine wpAny_bind (wpAny_newList ?_ hz)
  have hp : s.heap.objs.size ≤ h1.objs.size := by omega
  have hoL : (h1.push (seqObj "list" vs.toArray 0)).get? h1.objs.size = some (seqObj "list" vs.toArray 0) := Heap.get?_push_size _ rfl
  have kp2 : ∀ b o, s.heap.get? b = some o → b ≠ h1.objs.size ∧ (h1.push (seqObj "list" vs.toArray 0)).get? b = some o := fun b o q => ⟨Nat.ne_of_lt (Heap.lt_size (kp _ _ q)), Heap.get?_push_of_some _ (kp _ _ q)⟩
  show wpAny _ _ _ _ _ { s with heap := h1.push (seqObj "list" vs.toArray 0) }
  refine wpAny_bind (wpAny_holding (wpAny_call_entry_kw slot_list_sort ⟨_, hoL, rfl⟩ entry_list_sort ?body (ha2 _)))
  case body =>
    show wpAny (model prog w) A.in1.in1 (Builtin.«list.sort» ⟨[.ref h1.objs.size], kw⟩) _ _ _
    rw [hk]
    have er' : EachIs (fun v b => ∃ as, Reads (sortingHeap (h1.push (seqObj "list" vs.toArray 0)) h1.objs.size vs) v (enc b) as) vs bs := er.mono fun _ _ ⟨as, r⟩ => ⟨as, PyProof.Rows.Reads.keeps (fun c o q => sortingHeap_old (kp2 c o q).1 (kp2 c o q).2) r⟩
    refine list_sort_rev_vals (s := { s with heap := h1.push (seqObj "list" vs.toArray 0) }) hoL (SortsAt.data (s := { s with heap := sortingHeap (h1.push (seqObj "list" vs.toArray 0)) h1.objs.size vs }) (each_map (R := fun v d => ∃ as, Reads (sortingHeap (h1.push (seqObj "list" vs.toArray 0)) h1.objs.size vs) v d as) enc er') hal hs (bound_map hu)) hz ?_
    obtain ⟨ep, hat⟩ := sortedHeap_at' (vs := vs) (out := (sortVals (dataKind (sortingHeap (h1.push (seqObj "list" vs.toArray 0)) h1.objs.size vs) (bs.map enc)) b vs vs).toArray) hoL
    exact ⟨_, rfl, wpAny_pure ⟨_, rfl, h _ h1.objs.size _ ep hp (fun c o q => sortedHeap_old' (kp2 c o q).1 (kp2 c o q).2) hat (by rw [sortVals_length b rfl]; exact e.length) (sortVals_data b e er' hal)⟩⟩
end
section
variable {X : Cx} {pins : List (Addr × Obj)} {s : Shared} {σ : L2.St} {H : Hp} {Z : Addr → Prop}
open PySem.W in
theorem each_of {K : Frg} : ∀ {vs : List V} {us : List Value} {ds : List PyData}, RpA K H Z vs ds → Vals vs us → EachIs (fun u d => ∃ v, RelV v u ∧ Rp K H Z v d) us ds
  | _, _, _, .nil, .nil => .nil
  | _, _, _, .cons a b, .cons c d => .cons ⟨_, c, a⟩ (each_of b d)
open PySem.W in
theorem of_each {K : Frg} : ∀ {us : List Value} {ds : List PyData}, EachIs (fun u d => ∃ v, RelV v u ∧ Rp K H Z v d) us ds → ∃ vs, RpA K H Z vs ds ∧ Vals vs us
  | _, _, .nil => ⟨[], .nil, .nil⟩
  | _, _, .cons ⟨v, a, b⟩ c => by
    obtain ⟨vs, h1, h2⟩ := of_each c
    exact ⟨v :: vs, .cons b h1, .cons a h2⟩
open PySem.W in
theorem each_reads (I : Inv X pins σ H s) {us : List Value} {ds : List PyData} (h : EachIs (fun u d => ∃ v, RelV v u ∧ Rp X.K H Z v d) us ds) : EachIs (fun u d => ∃ as, Reads s.heap u d as) us ds :=
  h.mono fun u d ⟨v, a, b⟩ => Rp.reads I d v u b a
open PySem.W in
theorem sort_run {k : Nat} {b : Bool} {kw : List (Str × Value)} (hr : L2H.RoomH k X.A) {vs : List V} {us : List Value} {Q : VK} (I : Inv X pins σ H s) (r : Vals vs us) (h : rNwN X.K (srtN b) vs H Q)
    (hk : ∀ x, Builtin.«list.sort» ⟨[.ref x], kw⟩ = Builtin.«list.sort» ⟨[.ref x], [(Str.ofString "reverse", .bool b)]⟩) (ha1 : ∀ x, argsOk "sorted" ⟨[x], kw⟩) (ha2 : ∀ x, argsOk "list.sort" ⟨[.ref x], kw⟩) :
    wpAny (model X.prog X.w) X.A (call (.builtin "sorted") us kw) (EP X pins σ Q) X.xe s := by
  obtain ⟨Z, ds, ys, hd, hf, ho⟩ := h
  have hu := room_eq hr (show 60 ≤ 60 by decide)
  unfold srtN at hf
  split at hf
  · rename_i d
    obtain ⟨v, rfl, h⟩ := rts1 hd
    split at hf
    · rename_i xs q
      split at hf
      · rename_i hc
        cases hf
        obtain ⟨hal, hs⟩ := sortB_all hc.1
        have fin : ∀ {its : List Value} {ws : List V}, RpA X.K H Z ws xs → Vals ws its → ∀ {T : String} {o : Obj} {n : Nat} {l : Addr}, (T = "list" ∨ T = "tuple") → s.heap.get? l = some o → o.cls = .type T → o.data = .seq its.toArray n →
            wpAny (model X.prog X.w) X.A (call (.builtin "sorted") [.ref l] kw) (EP X pins σ Q) X.xe s := by
          intro its ws ra rv T o n l hT ho' hc' hd'
          have ee := each_of ra rv
          refine sorted_seq (enc := id) (bs := xs) (b := b) hT ho' hc' hd' hk (ha1 _) ha2 ee (each_reads I ee) (by rw [List.map_id]; exact hal) (by rw [List.map_id]; exact hs) (Nat.le_trans hc.2.2 line_lim) (fun d hd => ?_) fun h' p out ep hp kp hat hl eo => ?_
          · have := depthAll_get hc.2.1 d hd
            show X.A.units + 2 + d.depth < cLine
            omega
          · obtain ⟨vs', ra', rv'⟩ := of_each eo
            have hl2 : vs'.length = xs.length := by rw [rv'.length, hl]
            exact ⟨.ref p, upd H p (.lst vs'), I.laid (t' := s.toks) kp hp ⟨by rw [hl2]; exact Nat.le_trans hc.2.2 line_lim, out, ep, rv', hat⟩, rfl, ho p vs' (I.hok.fresh hp) ra'⟩
        unfold seqOf at q
        split at q
        · cases q
          obtain ⟨a, ws, rfl, h1, h2⟩ := h.lst
          obtain ⟨its, rv, hl, _⟩ := I.list h1.sq
          rw [Vals.ref1 r]
          obtain ⟨o, e1, e2, n, e3⟩ := hl.isList
          exact fin h2 rv (.inl rfl) e1 e2 e3
        · cases q
          obtain ⟨a, ws, rfl, h1, h2⟩ := h.tup
          obtain ⟨its, rv, hl, _⟩ := I.tuple h1
          rw [Vals.ref1 r]
          obtain ⟨o, e1, e2, n, e3⟩ := hl
          exact fin h2 rv (.inr rfl) e1 e2 e3
        · cases q
      · cases hf
    · cases hf
  · cases hf
theorem n_sorted {k : Nat} (hr : L2H.RoomH k X.A) : CallR X (.builtin "sorted") (rNwN X.K (srtN false)) := by
  intro pins s σ H xs us Q I r h
  exact sort_run (b := false) (kw := []) hr I r h PySem.W.plain_is_rev (fun _ => args_sorted1 _) fun _ => args_list_sort _
/-- what makes a new list makes data too -/
theorem c_of_n {id : Value} {f : List PyData → Option (List PyData)} (h : CallR X id (rNwN X.K f)) : CallR X id (rN X.K fun ds => (f ds).map .list) := by
  intro pins s σ H xs us Q I r ⟨Z, ds, ys, hz, hd, hf, ho⟩
  dsimp only at hf
  cases e : f ds with
  | none => rw [e] at hf; cases hf
  | some zs =>
    rw [e] at hf
    cases hf
    exact h pins s σ H xs us Q I r ⟨Z, ds, zs, hd, e, fun p vs hn ra => rout_lst hz ho ra p hn⟩
end
def srtF (b : Bool) (ds : List PyData) : Option PyData := (srtN b ds).map .list
section
variable {M : Md} {X : Cx} {B : Tb} {k : Nat} {cs : En → Sto → Rs (List Wv)} {p pos : Pos} {e : Expr} {es : List Expr}
theorem c_sorted (hr : L2H.RoomH k X.A) : CallR X (.builtin "sorted") (rN X.K (srtF false)) := c_of_n (n_sorted hr)
end
end
section
variable [Wtp] [Tbl]
/-! ### calls with keywords -/
def eOpK (f : List PyData → List PyData → Option PyData) (cs ck : En → Sto → Rs (List Wv)) : En → Sto → Rs Wv := fun env st =>
  (cs env st).bind fun ws st1 => (ck env st1).bind fun zs st2 => match looks ws st2, looks zs st2 with
    | some ds, some es => ret1 (f ds es) st2
    | _, _ => .no
@[simp] theorem x_opK (env : En) (st : Sto) (f : List PyData → List PyData → Option PyData) (cs ck : En → Sto → Rs (List Wv)) : eOpK f cs ck env st = ((cs env st).bind fun ws st1 => (ck env st1).bind fun zs st2 => match looks ws st2, looks zs st2 with
    | some ds, some es => ret1 (f ds es) st2
    | _, _ => .no) := rfl
def eOpKN (f : List PyData → List PyData → Option (List PyData)) (cs ck : En → Sto → Rs (List Wv)) : En → Sto → Rs Wv := fun env st =>
  (cs env st).bind fun ws st1 => (ck env st1).bind fun zs st2 => match looks ws st2, looks zs st2 with
    | some ds, some es => newO (f ds es) st2
    | _, _ => .no
@[simp] theorem x_opKN (env : En) (st : Sto) (f : List PyData → List PyData → Option (List PyData)) (cs ck : En → Sto → Rs (List Wv)) : eOpKN f cs ck env st = ((cs env st).bind fun ws st1 => (ck env st1).bind fun zs st2 => match looks ws st2, looks zs st2 with
    | some ds, some es => newO (f ds es) st2
    | _, _ => .no) := rfl
section
variable {M : Md} {X : Cx} {B : Tb} {k : Nat} {σ : L2.St} {H : Hp} {W : WX} {cs ck : En → Sto → Rs (List Wv)} {ca : En → Sto → Rs Wv} {pos p : Pos} {e : Expr} {es : List Expr} {kws : List Keyword}
theorem PK.imp {e : List Keyword} {t t' : TA} (h : PK X e t) (q : ∀ σ H Q, t' σ H Q → t σ H Q) : PK X e t' := ⟨fun pos pins s σ H Q I x => h.run pos pins s σ H Q I (q σ H Q x)⟩
end
/-! ### a comprehension given to a captured name -/
/-! ### min(xs, default=d), max(xs, default=d) -/
open PySem.W in
def bestK (f : PyData → List PyData → PyData) : List PyData → List PyData → Option PyData
  | [d], [e] => match seqOf d with
    | some [] => (match e with
      | .none => some .none
      | .int i => some (.int i)
      | _ => none)
    | some (x :: xs) => if alikeB (x :: xs) = true ∧ PyData.depthAll (x :: xs) ≤ 40 then some (f x xs) else none
    | none => none
  | _, _ => none
end
section
variable [Wtp] [Tbl]
/-! ### best and sorted of alike data -/
open PySem.W in
theorem alikeB_of {P : PyData → Prop} {xs : List PyData} (h : ∀ x ∈ xs, P x) (hp : ∀ x y, P x → P y → alike x y = true) (hn : ∀ x, P x → x ≠ .none) : alikeB xs = true := by
  unfold alikeB
  rw [Bool.and_eq_true, List.all_eq_true, List.all_eq_true]
  refine ⟨fun x hx => List.all_eq_true.mpr fun y hy => hp x y (h x hx) (h y hy), fun x hx => ?_⟩
  have := hn x (h x hx)
  cases x <;> first | rfl | exact absurd rfl this
open PySem.W in
theorem sortB_of {P : PyData → Prop} {xs : List PyData} (h : ∀ x ∈ xs, P x) (hp : ∀ x y, P x → P y → alike x y = true) (hn : (∀ x, P x → ∃ y ys, x = .tuple (y :: ys)) ∨ ∀ x, P x → x ≠ .none ∧ ∀ ys, x ≠ .tuple ys) : sortB xs = true := by
  unfold sortB
  rw [Bool.and_eq_true, List.all_eq_true]
  refine ⟨fun x hx => List.all_eq_true.mpr fun y hy => hp x y (h x hx) (h y hy), ?_⟩
  rw [Bool.or_eq_true, List.all_eq_true, List.all_eq_true]
  rcases hn with hn | hn
  · refine .inl fun x hx => ?_
    obtain ⟨y, ys, rfl⟩ := hn x (h x hx)
    rfl
  · refine .inr fun x hx => ?_
    obtain ⟨h1, h2⟩ := hn x (h x hx)
    cases x <;> first | rfl | exact absurd rfl h1 | exact absurd rfl (h2 _)
theorem best_ok {f : PyData → List PyData → PyData} {x : PyData} {xs : List PyData} (h : alikeB (x :: xs) = true) (hd : ∀ y ∈ x :: xs, y.depth ≤ 40) : bestF f [.list (x :: xs)] = some (f x xs) := by
  have hd' := depthAll_le hd
  unfold bestF seqOf
  dsimp only
  rw [if_pos ⟨h, hd'⟩]
@[simp] theorem bestK_nil_n (f : PyData → List PyData → PyData) : bestK f [.list []] [.none] = some .none := rfl
@[simp] theorem bestK_nil_i (f : PyData → List PyData → PyData) (i : Int) : bestK f [.list []] [.int i] = some (.int i) := rfl
@[simp] theorem bestK_nilT_n (f : PyData → List PyData → PyData) : bestK f [.tuple []] [.none] = some .none := rfl
@[simp] theorem bestK_nilT_i (f : PyData → List PyData → PyData) (i : Int) : bestK f [.tuple []] [.int i] = some (.int i) := rfl
theorem srt_ok {b : Bool} {xs : List PyData} (h : sortB xs = true) (hd : ∀ y ∈ xs, y.depth ≤ 40) (hl : xs.length ≤ 1000000) : srtN b [.list xs] = some (sortD b xs) := by
  have hd' := depthAll_le hd
  unfold srtN seqOf
  dsimp only
  rw [if_pos ⟨h, hd', hl⟩]
theorem srtF_of {b : Bool} {d : PyData} {ys : List PyData} (h : srtN b [d] = some ys) : srtF b [d] = some (.list ys) := by unfold srtF; rw [h]; rfl
/-- the same order on what the data are made of -/
def sortT {α : Type} (b : Bool) (enc : α → PyData) (xs : List α) : List α := xs.mergeSort (PySem.W.dataLe b enc)
theorem sortD_map {α : Type} (b : Bool) (enc : α → PyData) (xs : List α) : sortD b (xs.map enc) = (sortT b enc xs).map enc := by
  unfold sortD sortT
  rw [List.map_mergeSort (s := PySem.W.dataLe b id)]
  intro x _ y _
  rfl
theorem sortT_perm {α : Type} (b : Bool) (enc : α → PyData) (xs : List α) : (sortT b enc xs).Perm xs := List.mergeSort_perm _ _
theorem sortT_mem {α : Type} {b : Bool} {enc : α → PyData} {xs : List α} {x : α} : x ∈ sortT b enc xs ↔ x ∈ xs := (sortT_perm b enc xs).mem_iff
theorem sortT_len {α : Type} (b : Bool) (enc : α → PyData) (xs : List α) : (sortT b enc xs).length = xs.length := (sortT_perm b enc xs).length_eq
@[simp] theorem sortT_nil {α : Type} (b : Bool) (enc : α → PyData) : sortT b enc [] = [] := by simp [sortT]
/-! ### ints -/
def IsI (d : PyData) : Prop := ∃ i : Int, d = .int i
def IsP (d : PyData) : Prop := ∃ i j : Int, d = .tuple [.int i, .int j]
theorem isI_alike (x y : PyData) (h : IsI x) (k : IsI y) : PySem.W.alike x y = true := by obtain ⟨i, rfl⟩ := h; obtain ⟨j, rfl⟩ := k; rfl
theorem isI_nn (x : PyData) (h : IsI x) : x ≠ .none := by obtain ⟨i, rfl⟩ := h; exact fun z => nomatch z
theorem isP_alike (x y : PyData) (h : IsP x) (k : IsP y) : PySem.W.alike x y = true := by obtain ⟨i, i', rfl⟩ := h; obtain ⟨j, j', rfl⟩ := k; rfl
theorem isP_ns (x : PyData) (h : IsP x) : ∃ y ys, x = .tuple (y :: ys) := by obtain ⟨i, j, rfl⟩ := h; exact ⟨_, _, rfl⟩
def encP (p : Int × Int) : PyData := .tuple [.int p.1, .int p.2]
@[simp] theorem depth_int (i : Int) : (PyData.int i).depth = 0 := rfl
@[simp] theorem depth_pair (i j : Int) : (PyData.tuple [.int i, .int j]).depth = 1 := rfl
theorem ints_I (ns : List Int) : ∀ x ∈ ns.map PyData.int, IsI x := fun x hx => by obtain ⟨i, _, rfl⟩ := List.mem_map.mp hx; exact ⟨i, rfl⟩
theorem ints_P (ps : List (Int × Int)) : ∀ x ∈ ps.map encP, IsP x := fun x hx => by obtain ⟨p, _, rfl⟩ := List.mem_map.mp hx; exact ⟨_, _, rfl⟩
theorem isI_d {x : PyData} (h : IsI x) : x.depth ≤ 40 := by obtain ⟨i, rfl⟩ := h; exact Nat.zero_le _
theorem isP_d {x : PyData} (h : IsP x) : x.depth ≤ 40 := by obtain ⟨i, j, rfl⟩ := h; rw [depth_pair]; decide
/-- the least, the greatest of ints -/
def mnI (x : Int) (xs : List Int) : Int := xs.foldl (fun a y => if y < a then y else a) x
def mxI (x : Int) (xs : List Int) : Int := xs.foldl (fun a y => if a < y then y else a) x
theorem dataLt_i (i j : Int) : PySem.W.dataLt (.int i) (.int j) = decide (i < j) := by
  have h := congrFun (congrFun (PySem.W.dataLe_int (fun x : Int => x)) j) i
  have h2 : PySem.W.dataLe false (fun b : Int => PyData.int b) j i = !PySem.W.dataLt (.int i) (.int j) := rfl
  rw [h2] at h
  have : (!PySem.W.dataLt (.int i) (.int j)) = decide (j ≤ i) := h
  by_cases q : i < j
  · have e : decide (j ≤ i) = false := by simp; omega
    rw [e] at this
    simpa [q] using this
  · have e : decide (j ≤ i) = true := by simp; omega
    rw [e] at this
    simpa [q] using this
theorem minD_int : ∀ (xs : List Int) (x : Int), PySem.W.minD (.int x) (xs.map .int) = .int (mnI x xs)
  | [], x => rfl
  | y :: ys, x => by
    show PySem.W.minD (if PySem.W.dataLt (.int y) (.int x) then .int y else .int x) (ys.map .int) = .int (mnI (if y < x then y else x) ys)
    rw [dataLt_i]
    by_cases q : y < x
    · rw [if_pos (by simpa using q), if_pos q]; exact minD_int ys y
    · rw [if_neg (by simpa using q), if_neg q]; exact minD_int ys x
theorem maxD_int : ∀ (xs : List Int) (x : Int), PySem.W.maxD (.int x) (xs.map .int) = .int (mxI x xs)
  | [], x => rfl
  | y :: ys, x => by
    show PySem.W.maxD (if PySem.W.dataLt (.int x) (.int y) then .int y else .int x) (ys.map .int) = .int (mxI (if x < y then y else x) ys)
    rw [dataLt_i]
    by_cases q : x < y
    · rw [if_pos (by simpa using q), if_pos q]; exact maxD_int ys y
    · rw [if_neg (by simpa using q), if_neg q]; exact maxD_int ys x
@[simp] theorem o_min_ints (x : Int) (xs : List Int) : bestF PySem.W.minD [.list ((x :: xs).map .int)] = some (.int (mnI x xs)) := by
  have hI := ints_I (x :: xs)
  rw [List.map_cons] at hI ⊢
  rw [best_ok (alikeB_of hI isI_alike isI_nn) fun y hy => isI_d (hI y hy), minD_int]
@[simp] theorem o_max_ints (x : Int) (xs : List Int) : bestF PySem.W.maxD [.list ((x :: xs).map .int)] = some (.int (mxI x xs)) := by
  have hI := ints_I (x :: xs)
  rw [List.map_cons] at hI ⊢
  rw [best_ok (alikeB_of hI isI_alike isI_nn) fun y hy => isI_d (hI y hy), maxD_int]
/-- sorted of pairs of ints -/
theorem o_srt_pairs {b : Bool} (ps : List (Int × Int)) (hl : ps.length ≤ 1000000) : srtN b [.list (ps.map encP)] = some ((sortT b encP ps).map encP) := by
  rw [srt_ok (sortB_of (ints_P ps) isP_alike (.inl isP_ns)) (fun y hy => isP_d (ints_P ps y hy)) (by simpa using hl), sortD_map]
/-! ### lists of the store as sources -/
theorem srcW_dl (xs : List PyData) (st : Sto) : srcW (.d (.list xs)) st = .ok ⟨xs, []⟩ st := rfl
theorem srcW_dt (xs : List PyData) (st : Sto) : srcW (.d (.tuple xs)) st = .ok ⟨xs, []⟩ st := rfl
theorem srcW_l {i : Nat} {st : Sto} {xs : List PyData} (h : st[i]? = some (.lst xs)) : srcW (.r i) st = .ok ⟨xs, [(i, xs)]⟩ st := by
  unfold srcW seqW
  simp [h]
/-! ### the same shown twice is the same -/
end
section
variable [Wtp] [Tbl]
/-! ### list(range(n)), tuple(range(n)) -/
def rgLW (tup : Bool) (w : Wv) (st : Sto) : Rs Wv := match w with
  | .d (.int n) => if n ≤ 1000000 ∧ -1000000 ≤ n then .ok (.d (if tup then .tuple (rangeD 0 n.toNat) else .list (rangeD 0 n.toNat))) st else .no
  | _ => .no
def eRgL (tup : Bool) (c : En → Sto → Rs Wv) : En → Sto → Rs Wv := fun env st => (c env st).bind (rgLW tup)
@[simp] theorem x_rgL (env : En) (st : Sto) (t : Bool) (c : En → Sto → Rs Wv) : eRgL t c env st = (c env st).bind (rgLW t) := rfl
/-! ### methods of lists that read -/
def isLd (st : Sto) (w : Wv) : Bool := match look st w with
  | some (.list _) => true
  | _ => false
@[simp] theorem isLd_d (xs : List PyData) (st : Sto) : isLd st (.d (.list xs)) = true := rfl
def eMd (f : PyData → List PyData → Option PyData) (co : En → Sto → Rs Wv) (cs : En → Sto → Rs (List Wv)) : En → Sto → Rs Wv := fun env st => (co env st).bind fun w st1 => if isLd st1 w = true then (cs env st1).bind fun ws st2 => match look st2 w, looks ws st2 with
    | some d, some ds => ret1 (f d ds) st2
    | _, _ => .no
  else .no
@[simp] theorem x_md (env : En) (st : Sto) (f : PyData → List PyData → Option PyData) (co : En → Sto → Rs Wv) (cs : En → Sto → Rs (List Wv)) : eMd f co cs env st = ((co env st).bind fun w st1 => if isLd st1 w = true then (cs env st1).bind fun ws st2 => match look st2 w, looks ws st2 with
    | some d, some ds => ret1 (f d ds) st2
    | _, _ => .no
  else .no) := rfl
end
section
variable [Wtp] [Tbl]
/-! ### data of a type -/
open PySem.W (Datum DatumOrd Tup minOf maxOf)
section
variable {α : Type} [DecidableEq α]
section
variable [Datum α]
theorem cmpOk_d (x y : α) (h : Datum.depth α ≤ 40) : cmpOk (Datum.toD x) (Datum.toD y) = true := by
  unfold cmpOk
  have := Datum.depth_le x
  simp only [Datum.plain, Bool.true_and, decide_eq_true_eq]
  exact Nat.le_trans (Nat.min_le_left _ _) (by omega)
theorem q_ne (x y : α) (h : Datum.depth α ≤ 40 := by decide) : neD (Datum.toD x) (Datum.toD y) = some (.bool (!decide (x = y))) := by
  unfold neD
  rw [if_pos (cmpOk_d x y h), Datum.eqv]
end
section
variable [DatumOrd α]
theorem alikeB_d (xs : List α) : alikeB (xs.map Datum.toD) = true := alikeB_of (P := fun d => ∃ x : α, d = Datum.toD x) (fun d hd => by obtain ⟨x, _, rfl⟩ := List.mem_map.mp hd; exact ⟨x, rfl⟩) (fun _ _ ⟨x, hx⟩ ⟨y, hy⟩ => by rw [hx, hy]; exact DatumOrd.alike x y) fun _ ⟨x, hx⟩ => by rw [hx]; exact DatumOrd.notNone x
theorem dep_d (xs : List α) (h : Datum.depth α ≤ 40) : ∀ d ∈ xs.map Datum.toD, PyData.depth d ≤ 40 := fun d hd => by
  obtain ⟨x, _, rfl⟩ := List.mem_map.mp hd
  exact Nat.le_trans (Datum.depth_le x) h
theorem q_min (x : α) (xs : List α) (h : Datum.depth α ≤ 40 := by decide) : bestF PySem.W.minD [.list ((x :: xs).map Datum.toD)] = some (Datum.toD (minOf x xs)) := by
  have h1 := alikeB_d (x :: xs)
  have h2 := dep_d (x :: xs) h
  rw [List.map_cons] at h1 h2 ⊢
  rw [best_ok h1 h2, PySem.W.minD_map]
theorem minOf_mem : ∀ (xs : List α) (x : α), minOf x xs ∈ x :: xs
  | [], x => by simp [minOf]
  | y :: ys, x => by
    have h := minOf_mem ys (if DatumOrd.lt y x = true then y else x)
    have e : minOf x (y :: ys) = minOf (if DatumOrd.lt y x = true then y else x) ys := rfl
    rw [e]
    rcases List.mem_cons.mp h with h | h
    · rw [h]; split <;> simp
    · simp [h]
end
end
/-! ### ints in order -/
theorem pw_uniq : ∀ {l m : List Int}, l.Pairwise (· ≤ ·) → m.Pairwise (· ≤ ·) → l.Perm m → l = m
  | [], m, _, _, p => (List.Perm.eq_nil p.symm).symm
  | x :: l, [], _, _, p => absurd p.length_eq (by simp)
  | x :: l, y :: m, hl, hm, p => by
    have h1 : x ≤ y := by
      rcases List.mem_cons.mp (p.symm.mem_iff.mp (List.mem_cons_self ..) : y ∈ x :: l) with e | h
      · rw [e]; exact Int.le_refl _
      · exact (List.pairwise_cons.mp hl).1 y h
    have h2 : y ≤ x := by
      rcases List.mem_cons.mp (p.mem_iff.mp (List.mem_cons_self ..) : x ∈ y :: m) with e | h
      · rw [e]; exact Int.le_refl _
      · exact (List.pairwise_cons.mp hm).1 x h
    have e : x = y := Int.le_antisymm h1 h2
    subst e
    rw [pw_uniq (List.pairwise_cons.mp hl).2 (List.pairwise_cons.mp hm).2 p.cons_inv]
theorem sortI_pw (ns : List Int) : (sortT false .int ns).Pairwise (· ≤ ·) := by
  unfold sortT
  have e : PySem.W.dataLe false (fun i : Int => PyData.int i) = fun a b : Int => decide (a ≤ b) := PySem.W.dataLe_int fun i : Int => i
  rw [show PySem.W.dataLe false PyData.int = fun a b : Int => decide (a ≤ b) from e]
  have h := List.pairwise_mergeSort (le := fun a b : Int => decide (a ≤ b)) (fun a b c h1 h2 => by simp at *; omega) (fun a b => by simp; omega) ns
  exact h.imp fun {a b} q => by simpa using q
/-! ### a list, wherever -/
def LsIn (st : Sto) (w : Wv) (xs : List PyData) : Prop := w = .d (.list xs) ∨ ∃ i, w = .r i ∧ st[i]? = some (.lst xs)
section
variable {st : Sto} {w : Wv} {xs : List PyData}
theorem LsIn.keep (h : LsIn st w xs) {st' : Sto} (q : ∀ i, i < st.length → st'[i]? = st[i]?) : LsIn st' w xs := by
  rcases h with rfl | ⟨i, rfl, e⟩
  · exact .inl rfl
  · exact .inr ⟨i, rfl, by rw [q i (List.getElem?_eq_some_iff.mp e).1]; exact e⟩
theorem LsIn.app (h : LsIn st w xs) (l : Sto) : LsIn (st ++ l) w xs := h.keep fun i hi => List.getElem?_append_left hi
end
theorem extW_l {i : Nat} {st : Sto} {xs ys : List PyData} (h : st[i]? = some (.lst xs)) (hl : xs.length + ys.length ≤ 1000000) : extW (.r i) [.d (.list ys)] st = .ok (.d .none) (st.set i (.lst (xs ++ ys))) := by
  unfold extW
  simp [h, hl]
/-! ### x is True -/
end
section
variable [Wtp] [Tbl]
/-! ## dicts of the store that are walked: pinned from there on -/
def frzV (w : Wv) (st1 : Sto) : Rs Wv := match w with
  | .r i => match st1[i]? with
    | some (.dct es) => .ok (.d (.dict es)) (st1.set i (.lkd es))
    | some (.dtt es) => .ok (.d (.dict es)) (st1.set i (.lkd es))
    | some (.lkd es) => .ok (.d (.dict es)) st1
    | some (.lst xs) => .ok (.d (.list xs)) (st1.set i (.lkl xs))
    | some (.lkl xs) => .ok (.d (.list xs)) st1
    | _ => .ok (.r i) st1
  | w => .ok w st1
def eFrz (c : En → Sto → Rs Wv) : En → Sto → Rs Wv := fun env st => (c env st).bind frzV
@[simp] theorem x_frz (env : En) (st : Sto) (c : En → Sto → Rs Wv) : eFrz c env st = (c env st).bind frzV := rfl
@[simp] theorem frzV_d (x : PyData) (st : Sto) : frzV (.d x) st = .ok (.d x) st := rfl
section
variable {M : Md} {X : Cx} {B : Tb} {k : Nat} {pins : List (Addr × Obj)} {σ : L2.St} {H : Hp} {s : Shared} {m : Mp} {env : En} {st : Sto} {W : WX} {pos apos p5 : Pos} {o e f : Expr} {co ce cf : En → Sto → Rs Wv}
/-! ## d.get(k), d.get(k, x) -/
/-- what stands at a key -/
def getO (d c : PyData) : Option (Option PyData) := match d with
  | .dict es => match keyD c with
    | some q => if kindK es = true then some (dLook es q) else none
    | none => match tkD c with
      | some q => if kindT es = true then some (dLookT es q) else none
      | none => none
  | _ => none
def isDk (st : Sto) (w : Wv) : Bool := match look st w with
  | some (.dict _) => true
  | _ => false
@[simp] theorem isDk_d (es : List (PyData × PyData)) (st : Sto) : isDk st (.d (.dict es)) = true := rfl
def eGet1 (co ce : En → Sto → Rs Wv) : En → Sto → Rs Wv := fun env st => (co env st).bind fun w st1 => if isDk st1 w = true then (ce env st1).bind fun j st2 => look1 w st2 fun d => look1 j st2 fun c => ret1 ((getO d c).map fun o => o.getD .none) st2 else .no
def eGet2 (co ce cf : En → Sto → Rs Wv) : En → Sto → Rs Wv := fun env st => (co env st).bind fun w st1 => if isDk st1 w = true then (ce env st1).bind fun j st2 => (cf env st2).bind fun y st3 => look1 w st3 fun d => look1 j st3 fun c => (match y with | .d z => ret1 ((getO d c).map fun o => o.getD z) st3 | _ => .no) else .no
@[simp] theorem x_get1 (env : En) (st : Sto) (co ce : En → Sto → Rs Wv) : eGet1 co ce env st = ((co env st).bind fun w st1 => if isDk st1 w = true then (ce env st1).bind fun j st2 => look1 w st2 fun d => look1 j st2 fun c => ret1 ((getO d c).map fun o => o.getD .none) st2 else .no) := rfl
@[simp] theorem x_get2 (env : En) (st : Sto) (co ce cf : En → Sto → Rs Wv) : eGet2 co ce cf env st = ((co env st).bind fun w st1 => if isDk st1 w = true then (ce env st1).bind fun j st2 => (cf env st2).bind fun y st3 => look1 w st3 fun d => look1 j st3 fun c => (match y with | .d z => ret1 ((getO d c).map fun o => o.getD z) st3 | _ => .no) else .no) := rfl
/-! ## str of an int, dict of a dict -/
def dcpF : List PyData → Option (List (PyData × PyData))
  | [.dict es] => if kindK es = true ∧ es ≠ [] then some es else none
  | _ => none
def eDcp (cs : En → Sto → Rs (List Wv)) : En → Sto → Rs Wv := fun env st => (cs env st).bind fun ws st1 => match looks ws st1 with
  | some ds => match dcpF ds with
    | some es => .ok (.r st1.length) (st1 ++ [.dct es])
    | none => .no
  | none => .no
@[simp] theorem x_dcp (env : En) (st : Sto) (cs : En → Sto → Rs (List Wv)) : eDcp cs env st = (cs env st).bind fun ws st1 => match looks ws st1 with
  | some ds => match dcpF ds with
    | some es => .ok (.r st1.length) (st1 ++ [.dct es])
    | none => .no
  | none => .no := rfl
/-! ## list(d): a dict's keys -/
end
end
section
variable [Wtp] [Tbl]
/-! ## xs.clear() -/
section
variable {M : Md} {X : Cx} {B : Tb} {k : Nat} {pins : List (Addr × Obj)} {σ : L2.St} {H : Hp} {s : Shared} {m : Mp} {env : En} {st : Sto} {W : WX} {pos apos p5 : Pos} {o e f : Expr} {co ce cf : En → Sto → Rs Wv} {cs : En → Sto → Rs (List Wv)}
/-! ## x[i], y[j] = a, b -/
noncomputable def swpW (o1 i1 o2 i2 : En → Sto → Rs Wv) (env : En) (ws : List Wv) (st1 : Sto) : SR := match ws with
  | [.d x, .d y] => (o1 env st1).sb fun w1 st2 => (i1 env st2).sb fun j1 st3 => match setW w1 j1 x st3 with
    | some st4 => (o2 env st4).sb fun w2 st5 => (i2 env st5).sb fun j2 st6 => match setW w2 j2 y st6 with
      | some st7 => .nx env st7
      | none => .no
    | none => .no
  | _ => .no
noncomputable def sSwp (o1 i1 o2 i2 : En → Sto → Rs Wv) (cs : En → Sto → Rs (List Wv)) : En → Sto → SR := fun env st => (cs env st).sb (swpW o1 i1 o2 i2 env)
@[simp] theorem x_swp (o1 i1 o2 i2 : En → Sto → Rs Wv) (cs : En → Sto → Rs (List Wv)) (env : En) (st : Sto) : sSwp o1 i1 o2 i2 cs env st = (cs env st).sb (swpW o1 i1 o2 i2 env) := rfl
end
/-! ## dict(xs) of a list of pairs, the keys tuples -/
open Classical in
noncomputable def prsD : List PyData → Option (List (PyData × PyData))
  | [] => some []
  | .tuple [c, d] :: r => match prsD r with
    | some es => if (tkD c).isSome = true ∧ c ∉ Wtp.W then some ((c, d) :: es) else none
    | none => none
  | _ :: _ => none
def dctT (es : List (PyData × PyData)) : List (PyData × PyData) := es.foldl (fun acc p => dPutT acc ((tkD p.1).getD []) p.1 p.2) []
noncomputable def dprW (ws : List Wv) (st1 : Sto) : Rs Wv := match looks ws st1 with
  | some [.list ds] => match prsD ds with
    | some es => .ok (.r st1.length) (st1 ++ [.dtt (dctT es)])
    | none => .no
  | _ => .no
noncomputable def eDpr (cs : En → Sto → Rs (List Wv)) : En → Sto → Rs Wv := fun env st => (cs env st).bind dprW
@[simp] theorem x_dpr (env : En) (st : Sto) (cs : En → Sto → Rs (List Wv)) : eDpr cs env st = (cs env st).bind dprW := rfl
end
section
variable [Wtp] [Tbl]
/-! ## try whose body lets nothing out -/
def sTryN (c : En → Sto → SR) : En → Sto → SR := fun env st => match c env st with
  | .ex _ _ => .no
  | r => r
theorem Cxt.nox {M : Md} {X : Cx} {B : Tb} {k : Nat} (c : Cxt M X B k) : Cxt M X.nox B k :=
  ⟨c.hP, c.hw, c.hK, c.mg, c.hb, c.hN, c.nd, c.calm, c.kind, c.room, c.gu, c.vis, c.loc, c.pl, c.gl, c.cs, fun _ => PassesOwn.never, c.lam, c.fr⟩
theorem ds_tryN {M : Md} {X : Cx} {B : Tb} {k : Nat} {body : List Stmt} {h0 : ExceptHandler} {hs : List ExceptHandler} {pos : Pos} {cb : En → Sto → SR} (c : Cxt M X B k) (hb : ∀ X' : Cx, Cxt M X' B k → DB X' body cb) :
    DS X (.Try body (h0 :: hs) [] [] pos) (sTryN cb) := by
  refine ⟨fun W tk => PS.imp (ps_try_thru0 ((hb X.nox c.nox).pss (fun _ _ _ _ => False) (fun _ _ ⟨_, _, _, _, _, _, _, _, _, _, _, _, _, _, _, _, w⟩ => w.elim))) fun D σ H ⟨m, env, st, S, R, hp⟩ => ⟨m, env, st, S, R, ?_⟩⟩
  unfold sTryN at hp
  cases q : cb env st with
  | nx env1 st1 => rw [q] at hp; exact hp
  | rt p st1 => rw [q] at hp; exact hp
  | ex e st1 => rw [q] at hp; exact hp.elim
  | no => rw [q] at hp; exact hp.elim
end
section
variable [Wtp] [Tbl]
/-! ## sorted(xs, key=len) of a list of tuples -/
def lenK : PyData → Nat
  | .tuple xs => xs.length
  | _ => 0
def isTpD : PyData → Bool
  | .tuple _ => true
  | _ => false
def slnF : PyData → Option PyData
  | .list xs => if xs.all isTpD = true ∧ xs.length ≤ 1000000 then some (.list (xs.mergeSort fun a b => decide (lenK a ≤ lenK b))) else none
  | _ => none
def eSln (co : En → Sto → Rs Wv) : En → Sto → Rs Wv := fun env st => (co env st).bind fun w st1 => look1 w st1 fun d => ret1 (slnF d) st1
@[simp] theorem x_sln (env : En) (st : Sto) (co : En → Sto → Rs Wv) : eSln co env st = (co env st).bind fun w st1 => look1 w st1 fun d => ret1 (slnF d) st1 := rfl
/-! ## list(d.items()) of a dict with tuple keys -/
def pairsD (es : List (PyData × PyData)) : List PyData := es.map fun e => .tuple [e.1, e.2]
def litF : PyData → Option PyData
  | .dict es => if kindT es = true ∧ es.length ≤ 1000000 then some (.list (pairsD es)) else none
  | _ => none
def eLit (co : En → Sto → Rs Wv) : En → Sto → Rs Wv := fun env st => (co env st).bind fun w st1 => look1 w st1 fun d => ret1 (litF d) st1
@[simp] theorem x_lit (env : En) (st : Sto) (co : En → Sto → Rs Wv) : eLit co env st = (co env st).bind fun w st1 => look1 w st1 fun d => ret1 (litF d) st1 := rfl
/-! ## 1 << j, i >> j, i & 1 -/
end
section
open PySem PySem.Spec PyProof.Rows
/-! ## enumerate(zip(a, b)): the zip that enumerate draws from keeps the tuple it has given out -/
/-- a zip: what it has given out, whether it knows that this is still held -/
abbrev ZF (h : Heap) (z TI TO : Addr) (f : Value) (b : Bool) : Prop := h.get? z = some { cls := .type "zip", dict := none, data := .fields #[f, .bool b, .bool false, .ref TI, .ref TO], slots := #[] }
/-- nothing, or some tuple -/
def Gave (f : Value) : Prop := f = .none ∨ ∃ T : Addr, f = rawInt T
/-- a zip between two draws -/
def ZRest (h : Heap) (z TI TO : Addr) : Prop := ∃ f b, Gave f ∧ ZF h z TI TO f b
section
variable {prog : Program} {w : World} {A : Around} {E : Value → Shared → Prop} {s : Shared} {z TI TO : Addr} {f : Value} {b : Bool}
theorem alive_any {a : Addr} {Q : Option Obj → Shared → Prop} (q : Q (s.heap.get? a) s) : wpAny (model prog w) A (loadIfAlive a) Q E s := fun _ _ _ => q
theorem zfree {Q : Bool → Shared → Prop} (hz : ZF s.heap z TI TO f b) (hf : Gave f) (k : ∀ r b' h', ZF h' z TI TO f b' → Heap.SameBut z s.heap h' → Q r { s with heap := h' }) :
    wpAny (model prog w) A (Builtin.SmallTypes.ownedTupleIsFree (.ref z)) Q E s := by
  unfold Builtin.SmallTypes.ownedTupleIsFree
  refine wpAny_bind (wpAny_field hz rfl (x := f) rfl ?_)
  rcases hf with rfl | ⟨T, rfl⟩
  · exact wpAny_pure (k true b s.heap hz (.refl _ _))
  · show wpAny _ _ (loadIfAlive ((T : Int).toNat) >>= _) _ _ _; rw [Int.toNat_natCast]; refine wpAny_bind (alive_any ?_)
    cases s.heap.get? T with
    | none => exact wpAny_pure (k true b s.heap hz (.refl _ _))
    | some o =>
      simp only [Option.isNone_some, Bool.false_eq_true, if_false]
      refine wpAny_bind (wpAny_field hz rfl (x := .bool b) rfl ?_)
      cases b with
      | true => exact wpAny_pure (k false true s.heap hz (.refl _ _))
      | false => exact wpAny_bind (wpAny_setField_rec hz (by simp) fun h1 z1 s1 => wpAny_pure (k false true h1 z1 s1))
end
section
variable {prog : Program} {w : World} {A : Around} {E : Value → Shared → Prop} {s : Shared} {z TI TO i1 i2 : Addr} {fp1 fp2 : List Addr} {n1 n2 i : Nat} {P1 P2 : Nat → Value → Prop} {S1 S2 : Nat → Heap → Prop}
/-- what a draw from a zip leaves -/
structure ZDone (S1 S2 : Nat → Heap → Prop) (z TI TO i1 i2 : Addr) (i : Nat) (x y : Value) (h h' : Heap) : Prop where
  zr : ZRest h' z TI TO
  to : ∃ u v, IsTupOf2 h' TO u v
  s1 : S1 i h'
  s2 : S2 i h'
  new : IsTupOf2 h' h.objs.size x y
  size : h'.objs.size = h.objs.size + 1
  old : ∀ c o, c ∉ [z, TO, i1, i2] → h.get? c = some o → h'.get? c = some o
theorem not4 {a b c d x : Addr} (h : x ∉ [a, b, c, d]) : x ≠ a ∧ x ≠ b ∧ x ≠ c ∧ x ≠ d := by simpa using h
theorem zdraw {Q : Value → Shared → Prop} (S : ZipSep2 z TI TO i1 i2 fp1 fp2) (D1 : Draws prog w A.in1 i1 fp1 n1 P1 S1) (D2 : Draws prog w A.in1 i2 fp2 n2 P2 S2)
    (hz : ZRest s.heap z TI TO) (hI : IsTupOf2 s.heap TI (.ref i1) (.ref i2)) (hO : ∃ u v, IsTupOf2 s.heap TO u v) (t1 : S1 i s.heap) (t2 : S2 i s.heap) (l1 : i < n1) (l2 : i < n2)
    (k : ∀ x y h' tk, P1 i x → P2 i y → ZDone S1 S2 z TI TO i1 i2 (i + 1) x y s.heap h' → Q (.ref s.heap.objs.size) { s with heap := h', toks := tk }) :
    wpAny (model prog w) A (Builtin.SmallTypes.nextOf (.ref z)) Q E s := by
  obtain ⟨f, b, hf, hz⟩ := hz
  obtain ⟨u, v, hO⟩ := hO
  obtain ⟨hp, g, d, tk0, os⟩ := s
  have ty : Shared.TypeIs ⟨hp, g, d, tk0, os⟩ (.ref z) "zip" := ⟨_, hz, rfl⟩
  unfold Builtin.SmallTypes.nextOf
  refine wpAny_bind (wpAny_callSpecial?_slot (name := Str.ofString "__next__") ty F.slot_zip_next (wpAny_call_entry F.slot_zip_next ty F.entry_zip_next ?_ (F.args_zip_next_1 _)))
  show wpAny _ _ (field (.ref z) 2 >>= _) _ _ _; refine wpAny_bind (wpAny_field hz rfl (x := .bool false) rfl ?_)
  show wpAny _ _ (field (.ref z) 3 >>= _) _ _ _; refine wpAny_bind (wpAny_field hz rfl (x := .ref TI) rfl (wpAny_bind (wpAny_seqItems hI rfl ?_)))
  refine wpAny_bind (zfree hz hf fun r b' q0 zq s0 => ?_)
  have s0 : Heap.SameBut z hp q0 := s0
  have hO0 : IsTupOf2 q0 TO u v := s0.extBut _ _ S.TOz hO
  have r1 : S1 i q0 := D1.over t1 s0 S.zf1
  have r2 : S2 i q0 := D2.over t2 s0 S.zf2
  cases r with
  | true =>
    simp only [if_true]
    refine wpAny_bind (wpAny_rule (wpAny_bind (wpAny_field (s := ⟨q0, g, d, tk0, os⟩) zq rfl (x := .ref TO) rfl (wpAny_bind (wpAny_setField_rec (s := ⟨q0, g, d, tk0, os⟩) zq (by simp) fun q1 z1 s1 => ?_)))))
    have s1 : Heap.SameBut z q0 q1 := s1
    have z1 : ZF q1 z TI TO .ellipsis b' := z1
    refine wpAny_bind ?_
    simp only [List.zipIdx_cons, List.zipIdx_nil, List.forIn_cons, List.forIn_nil]
    refine wpAny_bind (wpAny_bind (wpAny_onRaise (wpAny_bind (D1.item i ⟨q1, g, d, tk0, os⟩ _ _ l1 (D1.over r1 s1 S.zf1) fun x q2 tk2 px n1 s2 => wpAny_pure ?_))))
    have s2 : Heap.SameBut i1 q1 q2 := s2
    have O2 : IsTupOf2 q2 TO u v := s2.extBut _ _ S.Ti1 (s1.extBut _ _ S.TOz hO0)
    refine wpAny_bind (wpAny_seqItems (s := ⟨q2, g, d, tk2, os⟩) O2 rfl (wpAny_bind (updateSeq_IsTupOf2 (s := ⟨q2, g, d, tk2, os⟩) O2 fun q3 O3 s3 => ?_)))
    have O3 : IsTupOf2 q3 TO x v := O3
    have s3 : Heap.SameBut TO q2 q3 := s3
    refine wpAny_bind (wpAny_letGo (wpAny_pure (wpAny_bind (wpAny_bind (wpAny_onRaise (wpAny_bind (D2.item i ⟨q3, g, d, tk2, os⟩ _ _ l2 (D2.over (D2.over (D2.over r2 s1 S.zf2) s2 S.sep1_2) s3 S.Tf2) fun y q4 tk4 py n2 s4 => wpAny_pure ?_)))))))
    have s4 : Heap.SameBut i2 q3 q4 := s4
    have O4 : IsTupOf2 q4 TO x v := s4.extBut _ _ S.Ti2 O3
    refine wpAny_bind (wpAny_seqItems (s := ⟨q4, g, d, tk4, os⟩) O4 rfl (wpAny_bind (updateSeq_IsTupOf2 (s := ⟨q4, g, d, tk4, os⟩) O4 fun q5 O5 s5 => ?_)))
    have O5 : IsTupOf2 q5 TO x y := O5
    have s5 : Heap.SameBut TO q4 q5 := s5
    refine wpAny_bind (wpAny_letGo (wpAny_pure (wpAny_pure (wpAny_bind (wpAny_seqItems (s := ⟨q5, g, d, tk4, os⟩) O5 rfl (wpAny_bind (wpAny_newTuple ?_)))))))
    have e5 : q5.objs.size = hp.objs.size := by rw [s5.1, s4.1, s3.1, s2.1, s1.1, s0.1]
    have z5 : ZF q5 z TI TO .ellipsis b' := s5.extBut _ _ S.TOz.symm (s4.extBut _ _ S.zi2 (s3.extBut _ _ S.TOz.symm (s2.extBut _ _ S.zi1 z1)))
    have zl : z < q5.objs.size := Heap.lt_size z5
    refine wpAny_bind (m := Builtin.SmallTypes.ownedTupleHandOut (.ref z) (.ref q5.objs.size)) ?_
    unfold Builtin.SmallTypes.ownedTupleHandOut
    have z6 : ZF (q5.push { cls := .type "tuple", data := .seq #[x, y] }) z TI TO .ellipsis b' := Heap.get?_push_of_some _ z5
    refine wpAny_bind (wpAny_setField_rec (s := ⟨q5.push { cls := .type "tuple", data := .seq #[x, y] }, g, d, tk4, os⟩) z6 (by simp) fun q7 z7 s7 => ?_)
    have z7 : ZF q7 z TI TO (rawInt q5.objs.size) b' := z7
    refine wpAny_setField_rec (s := ⟨q7, g, d, tk4, os⟩) z7 (by simp) fun q8 z8 s8 => ?_
    have z8 : ZF q8 z TI TO (rawInt q5.objs.size) false := z8
    have s7 : Heap.SameBut z (q5.push { cls := .type "tuple", data := .seq #[x, y] }) q7 := s7
    have s8 : Heap.SameBut z q7 q8 := s8
    have up : ∀ c o, c ≠ z → q5.get? c = some o → q8.get? c = some o := fun c o ne e => s8.extBut _ _ ne (s7.extBut _ _ ne (Heap.get?_push_of_some _ e))
    have T8 : IsTupOf2 q8 q5.objs.size x y := s8.extBut _ _ (Nat.ne_of_gt zl) (s7.extBut _ _ (Nat.ne_of_gt zl) (Heap.get?_push_size _ rfl))
    have e8 : q8.objs.size = q5.objs.size + 1 := by rw [s8.1, s7.1, Heap.size_push]
    refine wpAny_pure ⟨_, rfl, ?_⟩
    rw [e5] at T8 e8
    have K := k x y q8 tk4 px py ⟨⟨_, _, .inr ⟨_, rfl⟩, z8⟩, ⟨_, _, up _ _ S.TOz O5⟩, D1.frame _ q5 _ (D1.over (D1.over (D1.over n1 s3 S.Tf1) s4 S.sep2_1) s5 S.Tf1) fun c hc o e => up c o (fun q => S.zf1 (q ▸ hc)) e,
      D2.frame _ q5 _ (D2.over n2 s5 S.Tf2) fun c hc o e => up c o (fun q => S.zf2 (q ▸ hc)) e, T8, e8, fun c o nc e => by
        obtain ⟨cz, cT, c1, c2⟩ := not4 nc
        exact up c o cz (s5.extBut _ _ cT (s4.extBut _ _ c2 (s3.extBut _ _ cT (s2.extBut _ _ c1 (s1.extBut _ _ cz (s0.extBut _ _ cz e))))))⟩
    show wpAny _ _ (pure (Value.ref q5.objs.size)) Q E _
    rw [e5]
    exact wpAny_pure K
  | false =>
    simp only [Bool.false_eq_true, if_false]
    refine wpAny_bind ?_
    rw [← Array.forIn_toList]
    simp only [List.forIn_cons, List.forIn_nil]
    refine wpAny_bind (wpAny_bind (wpAny_holding (wpAny_bind (D1.item i ⟨q0, g, d, tk0, os⟩ _ _ l1 r1 fun x q2 tk2 px n1 s2 => wpAny_pure (wpAny_pure (wpAny_bind (wpAny_bind (wpAny_holding ?_))))))))
    have s2 : Heap.SameBut i1 q0 q2 := s2
    refine wpAny_bind (D2.item i ⟨q2, g, d, tk2, os⟩ _ _ l2 (D2.over r2 s2 S.sep1_2) fun y q4 tk4 py n2 s4 => wpAny_pure (wpAny_pure (wpAny_pure ?_)))
    have s4 : Heap.SameBut i2 q2 q4 := s4
    refine wpAny_bind (m := newTuple [x, y]) (wpAny_newTuple (wpAny_pure ⟨_, rfl, ?_⟩))
    have e4 : q4.objs.size = hp.objs.size := by rw [s4.1, s2.1, s0.1]
    have z4 : ZF q4 z TI TO f b' := s4.extBut _ _ S.zi2 (s2.extBut _ _ S.zi1 zq)
    have O4 : IsTupOf2 q4 TO u v := s4.extBut _ _ S.Ti2 (s2.extBut _ _ S.Ti1 hO0)
    have T4 : IsTupOf2 (q4.push { cls := .type "tuple", data := .seq #[x, y] }) q4.objs.size x y := Heap.get?_push_size _ rfl
    have e5 : (q4.push { cls := .type "tuple", data := .seq #[x, y] }).objs.size = q4.objs.size + 1 := Heap.size_push ..
    rw [e4] at T4 e5
    have K := k x y _ tk4 px py ⟨⟨_, _, hf, Heap.get?_push_of_some _ z4⟩, ⟨_, _, Heap.get?_push_of_some _ O4⟩, D1.frame _ q4 _ (D1.over n1 s4 S.sep2_1) fun c hc o e => Heap.get?_push_of_some _ e,
      D2.frame _ q4 _ n2 fun c hc o e => Heap.get?_push_of_some _ e, T4, e5, fun c o nc e => by
        obtain ⟨cz, cT, c1, c2⟩ := not4 nc
        exact Heap.get?_push_of_some _ (s4.extBut _ _ c2 (s2.extBut _ _ c1 (s0.extBut _ _ cz e)))⟩
    show wpAny _ _ (pure (Value.ref q4.objs.size)) Q E _
    rw [e4]
    exact wpAny_pure K
/-- the zip is at its end -/
theorem zstop {Q : Value → Shared → Prop} (S : ZipSep2 z TI TO i1 i2 fp1 fp2) (D1 : Draws prog w A.in1 i1 fp1 n1 P1 S1) (D2 : Draws prog w A.in1 i2 fp2 n2 P2 S2)
    (hz : ZRest s.heap z TI TO) (hI : IsTupOf2 s.heap TI (.ref i1) (.ref i2)) (hO : ∃ u v, IsTupOf2 s.heap TO u v) (t1 : S1 i s.heap) (t2 : S2 i s.heap) (hi : i = min n1 n2)
    (k : ∀ h' tk e, (∀ c o, c ∉ [z, TO, i1, i2] → s.heap.get? c = some o → h'.get? c = some o) → (∃ o, h'.get? e = some o ∧ o.cls = .type "StopIteration") → E (.ref e) { s with heap := h', toks := tk }) :
    wpAny (model prog w) A (Builtin.SmallTypes.nextOf (.ref z)) Q E s := by
  obtain ⟨f, b, hf, hz⟩ := hz
  obtain ⟨u, v, hO⟩ := hO
  obtain ⟨hp, g, d, tk0, os⟩ := s
  have ty : Shared.TypeIs ⟨hp, g, d, tk0, os⟩ (.ref z) "zip" := ⟨_, hz, rfl⟩
  unfold Builtin.SmallTypes.nextOf
  refine wpAny_bind (wpAny_callSpecial?_slot (name := Str.ofString "__next__") ty F.slot_zip_next (wpAny_call_entry F.slot_zip_next ty F.entry_zip_next ?_ (F.args_zip_next_1 _)))
  show wpAny _ _ (field (.ref z) 2 >>= _) _ _ _; refine wpAny_bind (wpAny_field hz rfl (x := .bool false) rfl ?_)
  show wpAny _ _ (field (.ref z) 3 >>= _) _ _ _; refine wpAny_bind (wpAny_field hz rfl (x := .ref TI) rfl (wpAny_bind (wpAny_seqItems hI rfl ?_)))
  refine wpAny_bind (zfree hz hf fun r b' q0 zq s0 => ?_)
  have s0 : Heap.SameBut z hp q0 := s0
  have hO0 : IsTupOf2 q0 TO u v := s0.extBut _ _ S.TOz hO
  have r1 : S1 i q0 := D1.over t1 s0 S.zf1
  have r2 : S2 i q0 := D2.over t2 s0 S.zf2
  cases r with
  | true =>
    simp only [if_true]
    refine wpAny_bind (wpAny_rule (wpAny_bind (wpAny_field (s := ⟨q0, g, d, tk0, os⟩) zq rfl (x := .ref TO) rfl (wpAny_bind (wpAny_setField_rec (s := ⟨q0, g, d, tk0, os⟩) zq (by simp) fun q1 z1 s1 => ?_)))))
    have s1 : Heap.SameBut z q0 q1 := s1
    have z1 : ZF q1 z TI TO .ellipsis b' := z1
    refine wpAny_bind ?_
    simp only [List.zipIdx_cons, List.zipIdx_nil, List.forIn_cons, List.forIn_nil]
    refine wpAny_bind (wpAny_bind (wpAny_onRaise ?_))
    have fin : ∀ (q : Heap) (tk : Nat) (e : Addr), (∀ c o, c ∉ [z, TO, i1, i2] → hp.get? c = some o → q.get? c = some o) → ZF q z TI TO .ellipsis b' → (∃ o, q.get? e = some o ∧ o.cls = .type "StopIteration") →
        wpAny (model prog w) A.in1 (setField (.ref z) 0 .none) (fun _ s'' => E (.ref e) s'') E ⟨q, g, d, tk, os⟩ := by
      intro q tk e fr zz ⟨o, ho, hc⟩
      have ne : e ≠ z := fun x => by subst x; rw [zz] at ho; cases ho; simp at hc
      refine wpAny_setField_rec (s := ⟨q, g, d, tk, os⟩) zz (by simp) fun q' _ sb => ?_
      have sb : Heap.SameBut z q q' := sb
      exact k q' tk e (fun c o nc x => sb.extBut _ _ (not4 nc).1 (fr c o nc x)) ⟨o, sb.extBut _ _ ne ho, hc⟩
    by_cases l1 : i < n1
    · refine wpAny_bind (D1.item i ⟨q1, g, d, tk0, os⟩ _ _ l1 (D1.over r1 s1 S.zf1) fun x q2 tk2 px m1 s2 => wpAny_pure ?_)
      have s2 : Heap.SameBut i1 q1 q2 := s2
      have O2 : IsTupOf2 q2 TO u v := s2.extBut _ _ S.Ti1 (s1.extBut _ _ S.TOz hO0)
      refine wpAny_bind (wpAny_seqItems (s := ⟨q2, g, d, tk2, os⟩) O2 rfl (wpAny_bind (updateSeq_IsTupOf2 (s := ⟨q2, g, d, tk2, os⟩) O2 fun q3 O3 s3 => ?_)))
      have s3 : Heap.SameBut TO q2 q3 := s3
      have hi2 : i = n2 := by omega
      refine wpAny_bind (wpAny_letGo (wpAny_pure (wpAny_bind (wpAny_bind (wpAny_onRaise (wpAny_bind (D2.done ⟨q3, g, d, tk2, os⟩ _ _ (by rw [← hi2]; exact D2.over (D2.over (D2.over r2 s1 S.zf2) s2 S.sep1_2) s3 S.Tf2) fun q e sq he => ?_)))))))
      have sq : Heap.ExtBut i2 q3 q := sq
      exact fin q tk2 e (fun c o nc x => by
        obtain ⟨cz, cT, c1, c2⟩ := not4 nc
        exact sq _ _ c2 (s3.extBut _ _ cT (s2.extBut _ _ c1 (s1.extBut _ _ cz (s0.extBut _ _ cz x))))) (sq _ _ S.zi2 (s3.extBut _ _ S.TOz.symm (s2.extBut _ _ S.zi1 z1))) he
    · have hi1 : i = n1 := by omega
      refine wpAny_bind (D1.done ⟨q1, g, d, tk0, os⟩ _ _ (by rw [← hi1]; exact D1.over r1 s1 S.zf1) fun q e sq he => ?_)
      have sq : Heap.ExtBut i1 q1 q := sq
      exact fin q tk0 e (fun c o nc x => by
        obtain ⟨cz, cT, c1, c2⟩ := not4 nc
        exact sq _ _ c1 (s1.extBut _ _ cz (s0.extBut _ _ cz x))) (sq _ _ S.zi1 z1) he
  | false =>
    simp only [Bool.false_eq_true, if_false]
    refine wpAny_bind ?_
    rw [← Array.forIn_toList]
    simp only [List.forIn_cons, List.forIn_nil]
    refine wpAny_bind (wpAny_bind (wpAny_holding ?_))
    by_cases l1 : i < n1
    · refine wpAny_bind (D1.item i ⟨q0, g, d, tk0, os⟩ _ _ l1 r1 fun x q2 tk2 px m1 s2 => wpAny_pure (wpAny_pure (wpAny_bind (wpAny_bind (wpAny_holding ?_)))))
      have s2 : Heap.SameBut i1 q0 q2 := s2
      have hi2 : i = n2 := by omega
      refine wpAny_bind (D2.done ⟨q2, g, d, tk2, os⟩ _ _ (by rw [← hi2]; exact D2.over r2 s2 S.sep1_2) fun q e sq he => ?_)
      have sq : Heap.ExtBut i2 q2 q := sq
      exact k q tk2 e (fun c o nc x => by
        obtain ⟨cz, cT, c1, c2⟩ := not4 nc
        exact sq _ _ c2 (s2.extBut _ _ c1 (s0.extBut _ _ cz x))) he
    · have hi1 : i = n1 := by omega
      refine wpAny_bind (D1.done ⟨q0, g, d, tk0, os⟩ _ _ (by rw [← hi1]; exact r1) fun q e sq he => ?_)
      have sq : Heap.ExtBut i1 q0 q := sq
      exact k q tk0 e (fun c o nc x => by
        obtain ⟨cz, cT, c1, c2⟩ := not4 nc
        exact sq _ _ c1 (s0.extBut _ _ cz x)) he
end
section
variable {prog : Program} {w : World} {A : Around} {E : Value → Shared → Prop} {s : Shared} {e z TI TO i1 i2 : Addr} {fp1 fp2 : List Addr} {n1 n2 i : Nat} {P1 P2 : Nat → Value → Prop} {S1 S2 : Nat → Heap → Prop}
theorem ezdraw {Q : Option Value → Shared → Prop} {c : Int} {old : Value} (S : ZipSep2 z TI TO i1 i2 fp1 fp2) (D1 : Draws prog w A.in1.in1 i1 fp1 n1 P1 S1) (D2 : Draws prog w A.in1.in1 i2 fp2 n2 P2 S2) (he : IsEnum s.heap e z c old) (hne : e ∉ [z, TO, i1, i2])
    (hz : ZRest s.heap z TI TO) (hI : IsTupOf2 s.heap TI (.ref i1) (.ref i2)) (hO : ∃ u v, IsTupOf2 s.heap TO u v) (t1 : S1 i s.heap) (t2 : S2 i s.heap) (l1 : i < n1) (l2 : i < n2)
    (k : ∀ x y h1 h' t tk, P1 i x → P2 i y → ZDone S1 S2 z TI TO i1 i2 (i + 1) x y s.heap h1 → IsEnumOut h' e z (c + 1) (.ref s.heap.objs.size) h1.objs.size → IsTupOf2 h' h1.objs.size (.int c t) (.ref s.heap.objs.size) →
      (∀ b o, b ≠ e → h1.get? b = some o → h'.get? b = some o) → Q (some (.ref h1.objs.size)) { s with heap := h', toks := tk }) :
    wpAny (model prog w) A (pyNext (.ref e)) Q E s := by
  obtain ⟨hp, g, d, tk0, os⟩ := s
  have ty : Shared.TypeIs ⟨hp, g, d, tk0, os⟩ (.ref e) "enumerate" := ⟨_, he, rfl⟩
  unfold pyNext
  refine wpAny_bind (wpAny_attempt (wpAny_callSpecial?_slot (name := Str.ofString "__next__") ty F.slot_enumerate_next (wpAny_call_entry F.slot_enumerate_next ty F.entry_enumerate_next ?_ (F.args_enumerate_next_1 _))))
  show wpAny _ _ (field (.ref e) 2 >>= _) _ _ _; refine wpAny_bind (wpAny_field he rfl (x := .ref z) rfl (wpAny_bind (zdraw S D1 D2 hz hI hO t1 t2 l1 l2 fun x y h1 tk p1 p2 zd => ?_)))
  have e1 : IsEnum h1 e z c old := zd.old e _ hne he
  show wpAny _ _ (field (.ref e) 3 >>= _) _ _ ⟨h1, g, d, tk, os⟩; refine wpAny_bind (wpAny_field e1 rfl (x := rawInt c) rfl ?_)
  show wpAny _ _ (field (.ref e) 4 >>= _) _ _ ⟨h1, g, d, tk, os⟩; refine wpAny_bind (wpAny_field e1 rfl (x := .none) rfl ?_)
  show wpAny _ _ (mkInt c >>= _) _ _ ⟨h1, g, d, tk, os⟩; refine wpAny_bind (wpAny_mkInt ?_)
  show wpAny _ _ (setField (.ref e) 3 (rawInt (c + 1)) >>= _) _ _ ⟨h1, g, d, tk + 1, os⟩; refine wpAny_bind (wpAny_setField_rec e1 (by simp) fun h2 e2 s2 => ?_)
  have s2 : Heap.SameBut e h1 h2 := s2
  have e2 : IsEnum h2 e z (c + 1) old := e2
  show wpAny _ _ (setField (.ref e) 4 .none >>= _) _ _ ⟨h2, g, d, tk + 1, os⟩; refine wpAny_bind (wpAny_setField_rec e2 (by simp) fun h3 e3 s3 => ?_)
  have s3 : Heap.SameBut e h2 h3 := s3
  have e3 : IsEnum h3 e z (c + 1) old := e3
  have z3 : h3.objs.size = h1.objs.size := by rw [s3.1, s2.1]
  show wpAny _ _ (newTuple [.int c tk, .ref hp.objs.size] >>= _) _ _ ⟨h3, g, d, tk + 1, os⟩; refine wpAny_bind (wpAny_newTuple ?_)
  have e4 : IsEnum (h3.push { cls := .type "tuple", data := .seq #[.int c tk, .ref hp.objs.size] }) e z (c + 1) old := Heap.get?_push_of_some _ e3
  have T4 : IsTupOf2 (h3.push { cls := .type "tuple", data := .seq #[.int c tk, .ref hp.objs.size] }) h3.objs.size (.int c tk) (.ref hp.objs.size) := Heap.get?_push_size _ rfl
  have k4 : ∀ b o, h3.get? b = some o → (h3.push { cls := .type "tuple", data := .seq #[.int c tk, .ref hp.objs.size] }).get? b = some o := fun b o q => Heap.get?_push_of_some _ q
  show wpAny _ _ (Builtin.SmallTypes.ownedTupleIsFree (.ref e) >>= _) _ _ ⟨h3.push { cls := .type "tuple", data := .seq #[.int c tk, .ref hp.objs.size] }, g, d, tk + 1, os⟩
  generalize h3.push { cls := .type "tuple", data := .seq #[.int c tk, .ref hp.objs.size] } = h4 at e4 T4 k4
  refine wpAny_bind ?_
  unfold Builtin.SmallTypes.ownedTupleIsFree
  refine wpAny_bind (wpAny_field e4 rfl (x := .none) rfl (wpAny_pure ?_))
  simp only [if_true]
  refine wpAny_bind (wpAny_rule (wpAny_bind (wpAny_field e4 rfl (x := old) rfl (wpAny_bind (wpAny_setField_rec e4 (by simp) fun h5 e5 s5 => ?_)))))
  have s5 : Heap.SameBut e h4 h5 := s5
  have e5 : IsEnum h5 e z (c + 1) (.ref hp.objs.size) := e5
  rw [z3] at T4 ⊢
  show wpAny _ _ (Builtin.SmallTypes.ownedTupleHandOut (.ref e) (.ref h1.objs.size) >>= _) _ _ ⟨h5, g, d, tk + 1, os⟩; refine wpAny_bind ?_
  unfold Builtin.SmallTypes.ownedTupleHandOut
  refine wpAny_bind (wpAny_setField_rec e5 (by simp) fun h6 e6 s6 => ?_)
  have s6 : Heap.SameBut e h5 h6 := s6
  have e6 : IsEnumOut h6 e z (c + 1) (.ref hp.objs.size) h1.objs.size := e6
  refine wpAny_setField_rec e6 (by simp) fun h7 e7 s7 => ?_
  have s7 : Heap.SameBut e h6 h7 := s7
  have e7 : IsEnumOut h7 e z (c + 1) (.ref hp.objs.size) h1.objs.size := e7
  have el : e < h1.objs.size := Heap.lt_size e1
  have up : ∀ b o, b ≠ e → h4.get? b = some o → h7.get? b = some o := fun b o nb q => s7.extBut _ _ nb (s6.extBut _ _ nb (s5.extBut _ _ nb q))
  exact wpAny_bind (wpAny_letGo (wpAny_pure ⟨_, rfl, wpAny_pure (k x y h1 h7 tk (tk + 1) p1 p2 zd e7 (up _ _ (Nat.ne_of_gt el) T4) fun b o nb q => up b o nb (k4 b o (s3.extBut _ _ nb (s2.extBut _ _ nb q))))⟩))
theorem ezstop {Q : Option Value → Shared → Prop} {c : Int} {old : Value} (S : ZipSep2 z TI TO i1 i2 fp1 fp2) (D1 : Draws prog w A.in1.in1 i1 fp1 n1 P1 S1) (D2 : Draws prog w A.in1.in1 i2 fp2 n2 P2 S2) (he : IsEnum s.heap e z c old)
    (hz : ZRest s.heap z TI TO) (hI : IsTupOf2 s.heap TI (.ref i1) (.ref i2)) (hO : ∃ u v, IsTupOf2 s.heap TO u v) (t1 : S1 i s.heap) (t2 : S2 i s.heap) (hi : i = min n1 n2)
    (k : ∀ h' tk, (∀ c o, c ∉ [z, TO, i1, i2] → s.heap.get? c = some o → h'.get? c = some o) → Q none { s with heap := h', toks := tk }) : wpAny (model prog w) A (pyNext (.ref e)) Q E s := by
  have ty : s.TypeIs (.ref e) "enumerate" := ⟨_, he, rfl⟩
  unfold pyNext
  refine wpAny_bind (wpAny_attempt (wpAny_callSpecial?_slot (name := Str.ofString "__next__") ty F.slot_enumerate_next (wpAny_call_entry F.slot_enumerate_next ty F.entry_enumerate_next ?_ (F.args_enumerate_next_1 _))))
  show wpAny _ _ (field (.ref e) 2 >>= _) _ _ _; refine wpAny_bind (wpAny_field he rfl (x := .ref z) rfl (wpAny_bind (zstop S D1 D2 hz hI hO t1 t2 hi fun h' tk x fr ⟨o, ho, hc⟩ => ?_)))
  exact wpAny_bind (wpAny_isInstance (T := "StopIteration") (b := true) ⟨o, ho, hc⟩ isSubtype_stop (wpAny_pure (k _ _ fr)))
/-- enumerate over a zip, which is its own iterator -/
theorem enum_zmade (z TI TO : Addr) : Meets (Builtin.«enumerate.__new__» ⟨[.type "enumerate", .ref z], []⟩) (fun _ Rr sh => IsZip sh.heap z TI TO .none ∧
      Rr (.ok (.ret (.ref sh.heap.objs.size))) { sh with heap := sh.heap.push { cls := .type "enumerate", data := .fields #[.none, .bool false, .ref z, rawInt 0, .none, .none] } }) :=
  .of_wp fun prog w A Rr sh hyp => by
    obtain ⟨hp, g, d, tk, os⟩ := sh
    obtain ⟨hzz, hyp⟩ := hyp
    have sb := sub_enumerate
    have qi : ∀ {A' : Around} {E' : Value → Shared → Prop} {Q' : Value → Shared → Prop}, Q' (.ref z) ⟨hp, g, d, tk, os⟩ → wpAny (model prog w) A' (pyIter (.ref z)) Q' E' ⟨hp, g, d, tk, os⟩ := fun q => wpAny_pyIter_zip hzz q
    wp_walk using qi
    refine wpAny_stack_any fun st => wpAny_pure ?_
    split
    · rename_i c5 _ _ _ _ _
      cases (c5 == Value.type "enumerate") <;> (wp_walk using qi; exact ⟨_, rfl, hyp⟩)
    · wp_walk using qi
      exact ⟨_, rfl, hyp⟩
theorem enum_zip {Q : Value → Shared → Prop} (hz : IsZip s.heap z TI TO .none)
    (h : ∀ h', IsEnum h' s.heap.objs.size z 0 .none → (∀ b ob, s.heap.get? b = some ob → h'.get? b = some ob) → Q (.ref s.heap.objs.size) { s with heap := h' }) :
    wpAny (model prog w) A (call (.type "enumerate") [.ref z]) Q E s := by
  refine callType_new F.called_enumerate (by decide) (F.typeCall_enumerate_1 _) (F.newCall_enumerate_1 _) (fun obj => F.args_object_init_2 obj _) F.entry_enumerate_new (enum_zmade z TI TO) ⟨hz, ?_⟩
  have he := Heap.get?_push_size s.heap (o := { cls := .type "enumerate", data := .fields #[.none, .bool false, .ref z, rawInt 0, .none, .none] }) rfl
  exact ⟨⟨_, he, rfl⟩, h _ he fun b ob x => Heap.get?_push_of_some _ x⟩
end
end
section
variable [Wtp] [Tbl]
/-! ## for n, (a, b) in enumerate(zip(x, y)) -/
def JEZ (K : Frg) (p q : Kd) (a b : Addr) : It :=
  ⟨fun i H => ∃ xs ys x y, p.sq K H a xs ∧ q.sq K H b ys ∧ xs[i]? = some x ∧ ys[i]? = some y,
   fun i H v H' => ∃ T U x y, v = .ref U ∧ H T = none ∧ upd H T (.tup [x, y]) U = none ∧ H' = upd (upd H T (.tup [x, y])) U (.tup [.int (i : Nat), .ref T]) ∧ (∀ xs, p.sq K H a xs → xs[i]? = some x) ∧ ∀ ys, q.sq K H b ys → ys[i]? = some y,
   fun i H => ∃ xs ys, p.sq K H a xs ∧ q.sq K H b ys ∧ i = min xs.length ys.length⟩
def EZt (p q : Kd) (a b N : Addr) (n : Nat) (h : Heap) : Prop :=
  (∃ old, IsEnum h (N + 5) (N + 4) ((0 : Int) + (n : Int)) old) ∧ ZRest h (N + 4) (N + 2) (N + 3) ∧ IsTupOf2 h (N + 2) (.ref N) (.ref (N + 1)) ∧ (∃ u v, IsTupOf2 h (N + 3) u v) ∧ p.it h N a n ∧ q.it h (N + 1) b n
theorem EZt.mv {p q : Kd} {a b N : Addr} {n : Nat} {h h' : Heap} (t : EZt p q a b N n h) (k : ∀ c ∈ [N + 5, N + 4, N + 2, N + 3, N, N + 1], ∀ o, h.get? c = some o → h'.get? c = some o) : EZt p q a b N n h' := by
  obtain ⟨⟨old, he⟩, ⟨f, g, hf, hz⟩, hI, ⟨u, v, hO⟩, h0, h1⟩ := t
  exact ⟨⟨old, k _ (by simp) _ he⟩, ⟨f, g, hf, k _ (by simp) _ hz⟩, k _ (by simp) _ hI, ⟨u, v, k _ (by simp) _ hO⟩, Kd.it_at h0 fun o e => k _ (by simp) o e, Kd.it_at h1 fun o e => k _ (by simp) o e⟩
theorem EZt.live {p q : Kd} {a b N : Addr} {n : Nat} {h : Heap} (t : EZt p q a b N n h) : ∀ c ∈ [N + 5, N + 4, N + 2, N + 3, N, N + 1], ∃ o, h.get? c = some o ∧ ∀ v, o.data ≠ .cell v := by
  intro c hc
  obtain ⟨⟨old, he⟩, ⟨f, g, hf, hz⟩, hI, ⟨u, v, hO⟩, h0, h1⟩ := t
  rcases (show c = N + 5 ∨ c = N + 4 ∨ c = N + 2 ∨ c = N + 3 ∨ c = N ∨ c = N + 1 by simpa using hc) with e | e | e | e | e | e <;> rw [e]
  · exact ⟨_, he, fun v q => nomatch q⟩
  · exact ⟨_, hz, fun v q => nomatch q⟩
  · exact ⟨_, hI, fun v q => nomatch q⟩
  · exact ⟨_, hO, fun v q => nomatch q⟩
  · exact Kd.it_ob h0
  · exact Kd.it_ob h1
section
variable {P : Program} {w : World} {K : Frg} {elts : List Expr} {kk : Nat} {tpos : Pos}
theorem apart_lt {a N : Addr} (l : a < N) : a ≠ N := fun e => absurd l (by rw [e]; exact Nat.lt_irrefl N)
theorem fresh_ne {h : Heap} {b T : Addr} {o : Obj} (e : h.get? b = some o) (hT : h.objs.size ≤ T) : b ≠ T := fun z => absurd (Heap.lt_size e) (by rw [z]; exact Nat.not_lt.mpr hT)
theorem turn_JEZ (p q : Kd) (a b N : Addr) (la : a < N) (lb : b < N) : Turn P w K (.Tuple elts kk tpos) (JEZ K p q a b) [N + 5, N + 4, N + 2, N + 3, N, N + 1] (N + 5) (EZt p q a b N) where
  mem := by simp
  obj := fun n h t => t.live
  keep := fun n h h' t k => t.mv k
  item := by
    intro X hP hw hK hc n pins s σ H E I hf st hg
    subst hP hw hK
    have st0 := st
    obtain ⟨⟨old, he⟩, hz, hI, hO, h0, h1⟩ := st
    obtain ⟨xs, ys, x, y, q0, q1, e0, e1⟩ := hg
    obtain ⟨us0, rv0, hu0⟩ := Kd.of I q0
    obtain ⟨us1, rv1, hu1⟩ := Kd.of I q1
    obtain ⟨w0, ew0, rw0⟩ := rv0.get e0
    obtain ⟨w1, ew1, rw1⟩ := rv1.get e1
    have hh : X.A.in1.in1.handled = none := I.ok.hd hc
    have D0 := p.draws (prog := X.prog) (w := X.w) (A := X.A.in1.in1) (i := N) (a := a) hh (apart_lt la) us0.toArray
    have D1 := q.draws (prog := X.prog) (w := X.w) (A := X.A.in1.in1) (i := N + 1) (a := b) hh (apart_lt (Nat.lt_succ_of_lt lb)) us1.toArray
    have S := zip_sep2 (N := N) (fp1 := [a]) (fun d hd => by rw [List.mem_singleton.mp hd]; exact la) (fp2 := [b]) (fun d hd => by rw [List.mem_singleton.mp hd]; exact lb)
    have l0 : n < us0.toArray.size := by simpa using (List.getElem?_eq_some_iff.mp ew0).1
    have l1 : n < us1.toArray.size := by simpa using (List.getElem?_eq_some_iff.mp ew1).1
    have ne5 : (N + 5 : Nat) ∉ [N + 4, N + 3, N, N + 1] := by simp <;> omega
    refine ezdraw S D0 D1 he ne5 hz hI hO ⟨h0, hu0⟩ ⟨h1, hu1⟩ l0 l1 fun x2 y2 g1 g2 t tk k0 k1 zd eo T2 fr => ⟨_, rfl, wpAny_letOwnedTupleGo_enum eo fun g3 ee s3 => ?_⟩
    have s3 : Heap.SameBut (N + 5) g2 g3 := s3
    have v0 : x2 = w0 := by
      have : us0[n]? = some x2 := by simpa using k0
      rw [ew0] at this; cases this; rfl
    subst v0
    have v1 : y2 = w1 := by
      have : us1[n]? = some y2 := by simpa using k1
      rw [ew1] at this; cases this; rfl
    subst v1
    have in4 : ∀ c ∈ [N + 4, N + 3, N, N + 1], c ∈ [N + 5, N + 4, N + 2, N + 3, N, N + 1] := by
      intro c hc'
      rcases (show c = N + 4 ∨ c = N + 3 ∨ c = N ∨ c = N + 1 by simpa using hc') with e | e | e | e <;> (rw [e]; simp)
    have neT : ∀ c ∈ [N + 5, N + 4, N + 2, N + 3, N, N + 1], c ≠ s.heap.objs.size := fun c hc' => by
      obtain ⟨o, eo', _⟩ := st0.live c hc'
      exact fresh_ne eo' (Nat.le_refl _)
    have neU : ∀ c ∈ [N + 5, N + 4, N + 2, N + 3, N, N + 1], c ≠ g1.objs.size := fun c hc' => by
      obtain ⟨o, eo', _⟩ := st0.live c hc'
      have := Heap.lt_size eo'
      rw [zd.size]
      intro z
      rw [z] at this
      exact absurd this (Nat.not_lt.mpr (Nat.le_succ _))
    have I1 : Inv X pins σ (upd H s.heap.objs.size (.tup [x, y])) { s with heap := g1, toks := tk } :=
      I.turnedNew (t' := tk) (ch := [N + 4, N + 3, N, N + 1]) zd.old (fun c hc' => hf c (in4 c hc')) (Nat.le_refl _) ⟨by show 2 ≤ sizeLine; decide, [x2, y2], .cons rw0 (.cons rw1 .nil), ⟨_, zd.new, rfl, _, rfl⟩⟩
    have up : ∀ c o, c ≠ N + 5 → g1.get? c = some o → g3.get? c = some o := fun c o nc e => s3.extBut _ _ nc (fr c o nc e)
    have T3 : IsTupOf2 g3 g1.objs.size (.int ((0 : Int) + (n : Int)) t) (.ref s.heap.objs.size) := s3.extBut _ _ (neU (N + 5) (by simp)).symm T2
    have I2 : Inv X pins σ (upd (upd H s.heap.objs.size (.tup [x, y])) g1.objs.size (.tup [.int (n : Nat), .ref s.heap.objs.size])) { s with heap := g3, toks := tk } :=
      I1.turnedNew (t' := tk) (ch := [N + 5]) (fun c o nc e => up c o (by simpa using nc) e) (fun c hc' => by
        rw [List.mem_singleton.mp hc']
        have := hf (N + 5) (by simp)
        exact ⟨by rw [upd_ne (neT (N + 5) (by simp))]; exact this.1, this.2⟩) (Nat.le_refl _) ⟨by show 2 ≤ sizeLine; decide, [.int ((0 : Int) + (n : Int)) t, .ref s.heap.objs.size], .cons ⟨t, by simp⟩ (.cons rfl .nil), ⟨_, T3, rfl, _, rfl⟩⟩
    refine ⟨.ref g1.objs.size, _, I2, rfl, ⟨s.heap.objs.size, g1.objs.size, x, y, rfl, I.hok.fresh (Nat.le_refl _), I1.hok.fresh (Nat.le_refl _), rfl, fun l hl => by rw [Kd.inj I hl q0]; exact e0, fun l hl => by rw [Kd.inj I hl q1]; exact e1⟩, ⟨⟨.ref s.heap.objs.size, ?_⟩, ?_, ?_, ?_, ?_, ?_⟩, fun c hc' => ?_⟩
    · have e5 : (0 : Int) + ((n + 1 : Nat) : Int) = (0 : Int) + (n : Int) + 1 := by omega
      rw [e5]
      exact ee
    · obtain ⟨f, g, hf', z⟩ := zd.zr
      exact ⟨f, g, hf', up _ _ (by simp) z⟩
    · exact up _ _ (by simp) (zd.old _ _ (by simp) hI)
    · obtain ⟨u, v, z⟩ := zd.to
      exact ⟨u, v, up _ _ (by simp) z⟩
    · exact Kd.it_at zd.s1.1 fun o e => up _ o (by simp) e
    · exact Kd.it_at zd.s2.1 fun o e => up _ o (by simp) e
    · rw [upd_ne (neU c hc'), upd_ne (neT c hc')]
      exact (hf c hc').1
  done := by
    intro X hP hw hK hc n pins s σ H E I hf st hg
    subst hP hw hK
    obtain ⟨⟨old, he⟩, hz, hI, hO, h0, h1⟩ := st
    obtain ⟨xs, ys, q0, q1, en⟩ := hg
    obtain ⟨us0, rv0, hu0⟩ := Kd.of I q0
    obtain ⟨us1, rv1, hu1⟩ := Kd.of I q1
    have hh : X.A.in1.in1.handled = none := I.ok.hd hc
    have D0 := p.draws (prog := X.prog) (w := X.w) (A := X.A.in1.in1) (i := N) (a := a) hh (apart_lt la) us0.toArray
    have D1 := q.draws (prog := X.prog) (w := X.w) (A := X.A.in1.in1) (i := N + 1) (a := b) hh (apart_lt (Nat.lt_succ_of_lt lb)) us1.toArray
    have S := zip_sep2 (N := N) (fp1 := [a]) (fun d hd => by rw [List.mem_singleton.mp hd]; exact la) (fp2 := [b]) (fun d hd => by rw [List.mem_singleton.mp hd]; exact lb)
    have hn : n = min us0.toArray.size us1.toArray.size := by
      have l0 := rv0.length
      have l1 := rv1.length
      simp; omega
    refine ezstop S D0 D1 he hz hI hO ⟨h0, hu0⟩ ⟨h1, hu1⟩ hn fun h' tk fr => ⟨rfl, ?_⟩
    exact I.turnedL (t' := tk) (ch := [N + 4, N + 3, N, N + 1]) fr fun c hc' => hf c (by rcases (show c = N + 4 ∨ c = N + 3 ∨ c = N ∨ c = N + 1 by simpa using hc') with e | e | e | e <;> (rw [e]; simp))
  self := fun A n s Q E st h => by
    obtain ⟨⟨old, he⟩, _⟩ := st
    exact wpAny_pyIter_enum he h
end
section
variable {K : Frg} {m : Mp} {n : Nat} {H : Hp}
theorem isit_ez {sc sd : Sc} {a b : Addr} {p q : Kd} (h : HoldsAt K m n H sc p a) (h' : HoldsAt K m n H sd q b) : IsIt K (JEZ K p q a b) m n H ⟨enumD (List.zipWith pairD sc.xs sd.xs), sc.lv ++ sd.lv⟩ := by
  have hl : (enumD (List.zipWith pairD sc.xs sd.xs)).length = min sc.xs.length sd.xs.length := by simp [enumD]
  refine ⟨fun i H2 m2 st2 f S l hi => ?_, fun H2 m2 st2 f S l => ?_, fun i H2 m2 st2 v H3 f S l hi y => ?_⟩
  · rw [show lvOk _ st2 = _ from lvOk_app _ _ _] at l
    obtain ⟨us, u1, u2⟩ := h.at' H2 m2 st2 f S l.1
    obtain ⟨vs, v1, v2⟩ := h'.at' H2 m2 st2 f S l.2
    have hi : i < min sc.xs.length sd.xs.length := hl ▸ hi
    obtain ⟨x, ex, _⟩ := u2.get (List.getElem?_eq_getElem (show i < sc.xs.length by omega))
    obtain ⟨y, ey, _⟩ := v2.get (List.getElem?_eq_getElem (show i < sd.xs.length by omega))
    exact ⟨us, vs, x, y, u1, v1, ex, ey⟩
  · rw [show lvOk _ st2 = _ from lvOk_app _ _ _] at l
    obtain ⟨us, u1, u2⟩ := h.at' H2 m2 st2 f S l.1
    obtain ⟨vs, v1, v2⟩ := h'.at' H2 m2 st2 f S l.2
    exact ⟨us, vs, u1, v1, by rw [u2.len, v2.len]; exact hl⟩
  · rw [show lvOk _ st2 = _ from lvOk_app _ _ _] at l
    obtain ⟨us, u1, u2⟩ := h.at' H2 m2 st2 f S l.1
    obtain ⟨vs, v1, v2⟩ := h'.at' H2 m2 st2 f S l.2
    have hi : i < min sc.xs.length sd.xs.length := hl ▸ hi
    have i1 : i < sc.xs.length := by omega
    have i2 : i < sd.xs.length := by omega
    obtain ⟨T, U, x, y, rfl, hn, hn2, rfl, y1, y2⟩ := y
    obtain ⟨x', ex, rx⟩ := u2.get (List.getElem?_eq_getElem i1)
    obtain ⟨y', ey, ry⟩ := v2.get (List.getElem?_eq_getElem i2)
    have e := y1 us u1
    rw [ex] at e
    cases e
    have e := y2 vs v1
    rw [ey] at e
    cases e
    have g1 := grow_upd (o := .tup [x, y]) hn
    have g2 := grow_upd (o := .tup [V.int (i : Nat), .ref T]) hn2
    have kp := (Fol.same (m := m2) (n := st2.length) g1).kp (K := K)
    have kp2 := (Fol.same (m := m2) (n := st2.length) g2).kp (K := K)
    refine ⟨fun c o e => g2 c o (g1 c o e), .tuple [.int (i : Nat), pairD sc.xs[i] sd.xs[i]], by simp [enumD, List.getElem?_zipWith, i1, i2], .tup (.inl upd_same) (.cons (.int _) (.cons (.tup (.inl (g2 _ _ upd_same)) (.cons ((rx.mv kp).mv kp2) (.cons ((ry.mv kp).mv kp2) .nil))) .nil))⟩
end
def cEz (cs : En → Sto → Rs (List Wv)) : En → Sto → Rs Sc := fun env st => (cZip2 cs env st).bind fun sc st1 => .ok ⟨enumD sc.xs, sc.lv⟩ st1
@[simp] theorem x_ez (env : En) (st : Sto) (c : En → Sto → Rs (List Wv)) : cEz c env st = ((c env st).bind zip2W).bind fun sc st1 => .ok ⟨enumD sc.xs, sc.lv⟩ st1 := rfl
section
variable {M : Md} {X : Cx} {B : Tb} {k : Nat} {pos p p2 pos2 tpos : Pos} {elts : List Expr} {kk : Nat}
theorem di_ez (c : Cxt M X B k) {e e2 : Expr} {cs : En → Sto → Rs (List Wv)} (j jz : Nat) (hg : B.gs[j]? = some ("enumerate" : Str)) (hm : M.mg "enumerate" = none) (hgz : B.gs[jz]? = some ("zip" : Str)) (hmz : M.mg "zip" = none) (ha : DA X [e, e2] cs)
    (hs : starEach [e, e2] X.env = (false, eval e X.env) :: starEach [e2] X.env := by rfl) (hpl : (backTo pos2 (starEach [e2] X.env)).any (·.1) = false := by rfl)
    (hs2 : starEach [.Call (.Name "zip" p2) [e, e2] [] pos2] X.env = [(false, eval (.Call (.Name "zip" p2) [e, e2] [] pos2) X.env)] := by rfl) :
    DI X (.Tuple elts kk tpos) (.Call (.Name "enumerate" p) [.Call (.Name "zip" p2) [e, e2] [] pos2] [] pos) (cEz cs) := by
  refine ⟨fun W tk => ⟨fun pins s σ H R I ⟨m, env, st, S, Re, hp⟩ => ?_⟩⟩
  unfold cEz cZip2 at hp
  rw [Rs.post_bind, Rs.post_bind] at hp
  refine Call_ (ld_blt I (c.gl j _ hg) (by rw [c.mg]; exact hm) boot_enumerate (PyProof.Rows.callWith_type1 ?_ hs2 rfl))
  rw [hs2]
  refine Calls.spliced_cons ?_
  refine Call_ (ld_blt I (c.gl jz _ hgz) (by rw [c.mg]; exact hmz) PyProof.Rows.boot_zip (PyProof.Rows.callWith_type1 (ha.go tk I S Re pos2 (Rs.post_mono hp (fun ws st1 q vs H1 m1 us s1 I1 rv f1 S1 r1 => ?_) fun _ _ q => q)) hs hpl))
  split at q
  · split at q
    · rename_i sc sd esc esd
      obtain ⟨v, v', rfl, r, r'⟩ := rws2 r1
      obtain ⟨a, kd, rfl, h⟩ := seqW_at S1 r esc
      obtain ⟨b, kd', rfl, h'⟩ := seqW_at S1 r' esd
      cases rv with
      | cons rv rn =>
        cases rn with
        | cons rv' rn =>
          cases rn
          cases rv
          cases rv'
          obtain ⟨xs, hx⟩ := h.now S1 (seqW_lv esc)
          obtain ⟨us, _, hu⟩ := Kd.of I1 hx
          obtain ⟨xs', hx'⟩ := h'.now S1 (seqW_lv esd)
          obtain ⟨us', _, hu'⟩ := Kd.of I1 hx'
          refine zip_begins2 (kd.begins a us.toArray) (kd'.begins b us'.toArray) hu hu' fun h'' hz hT hO i1 i2 hsz hk => Calls.spliced_nil ?_
          refine enum_zip (s := { s1 with heap := h'' }) hz fun h3 he hk2 => wpAny_pyIter_enum he ?_
          have e5 : h''.objs.size = s1.heap.objs.size + 5 := hsz
          have he : IsEnum h3 (s1.heap.objs.size + 5) (s1.heap.objs.size + 4) 0 .none := e5 ▸ he
          have hk2 : ∀ b ob, h''.get? b = some ob → h3.get? b = some ob := hk2
          have I2 : Inv X pins σ H1 { s1 with heap := h3 } := I1.kept (t' := s1.toks) fun b ob z => hk2 b ob (hk b ob z)
          refine ⟨s1.heap.objs.size + 5, [s1.heap.objs.size + 5, s1.heap.objs.size + 4, s1.heap.objs.size + 2, s1.heap.objs.size + 3, s1.heap.objs.size, s1.heap.objs.size + 1], _, _, H1, by rw [← e5], I2, turn_JEZ kd kd' a b _ (here_lt hu) (here_lt hu'),
            ⟨⟨.none, he⟩, ⟨_, _, .inl rfl, hk2 _ _ hz⟩, hk2 _ _ hT, ⟨_, _, hk2 _ _ hO⟩, Kd.first (hk2 _ _ i1), Kd.first (hk2 _ _ i2)⟩, fun d hd => ?_, q _ H1 m1 f1 S1 (isit_ez h h')⟩
          have le : s1.heap.objs.size ≤ d := by
            rcases (show d = s1.heap.objs.size + 5 ∨ d = s1.heap.objs.size + 4 ∨ d = s1.heap.objs.size + 2 ∨ d = s1.heap.objs.size + 3 ∨ d = s1.heap.objs.size ∨ d = s1.heap.objs.size + 1 by simpa using hd) with z | z | z | z | z | z <;> (rw [z]; first | exact Nat.le_add_right _ _ | exact Nat.le_refl _)
          exact I1.fpOk le (I1.hok.fresh le)
    · exact q.elim
  · exact q.elim
end
end
section
variable [Wtp] [Tbl]
/-! ## max of several whole numbers -/
section
variable {prog : Program} {w : World} {A : Around} {E : Value → Shared → Prop} {s : Shared}
theorem args_max_5 (a b c d e : Value) : argsOk "max" ⟨[a, b, c, d, e], []⟩ := by unfold argsOk; kernel_rfl
theorem max_ints {vs : List Value} {ns : List Int} {Q : Value → Shared → Prop} (hh : A.handled = none) (ha : argsOk "max" ⟨vs, []⟩) (hi : IntsAre vs ns) (h3 : 3 ≤ vs.length ∧ vs.length ≤ 100)
    (k : ∀ h' tk M t, (∀ b o, s.heap.get? b = some o → h'.get? b = some o) → M ∈ ns → (∀ a, a ∈ ns → a ≤ M) → Q (.int M t) { s with heap := h', toks := tk }) :
    wpAny (model prog w) A (call (.builtin "max") vs) Q E s := by
  obtain ⟨xs, e⟩ := hi.allInts.items
  have hn : numsOf (intItems xs).toList = ns := by rw [← e]; exact hi.numsOf
  rw [nums_intItems] at hn
  have hl : vs.length = xs.size := by
    have := congrArg Array.size e
    simpa [intItems] using this
  have hname : (toString "max" ++ toString ".loop" : String) = "max.loop" := by decide
  have hz : vs.length ≤ sizeLine := Nat.le_trans h3.2 (Nat.le_trans (by omega) line_lim)
  have hT : (s.heap.push { cls := .type "tuple", data := .seq vs.toArray }).IsTuple s.heap.objs.size (intItems xs) := ⟨_, Heap.get?_push_size _ rfl, rfl, 0, by rw [e]⟩
  have sz : (s.heap.push { cls := .type "tuple", data := .seq vs.toArray }).objs.size = s.heap.objs.size + 1 := Heap.size_push ..
  refine call_function_tree F.kind_max F.plain_max F.entry_max ha ?_
  obtain ⟨a, b, c, r, rfl⟩ : ∃ a b c r, vs = a :: b :: c :: r := by
    match vs, h3 with
    | a :: b :: c :: r, _ => exact ⟨a, b, c, r, rfl⟩
    | [], h => exact absurd h.1 (by decide)
    | [_], h => exact absurd h.1 (by simp)
    | [_, _], h => exact absurd h.1 (by simp)
  show wpAny _ A.in1 (Builtin.Builtins.bindParams "max" ["key", "default"] 0 ⟨[], []⟩ >>= _) _ _ s; refine wpAny_bind (wpAny_of_eq (show Builtin.Builtins.bindParams "max" ["key", "default"] 0 ⟨[], []⟩ = pure [none, none] from rfl) ?_)
  show wpAny _ A.in1 (newTuple (a :: b :: c :: r) >>= _) _ _ s; refine wpAny_bind (wpAny_newTuple (wpAny_bind (wpAny_pyIter_tuple hT ?_)) hz)
  refine wpAny_bind (wpAny_newObj_type ?_)
  rw [hname]
  have W := Walks.tuple (prog := prog) (w := w) (A := A.in1) hh (s.heap.push { cls := .type "tuple", data := .seq (a :: b :: c :: r).toArray }).objs.size s.heap.objs.size (by rw [sz]; exact Nat.ne_of_lt (Nat.lt_succ_self _)) (intItems xs)
  have z2 : ((s.heap.push { cls := .type "tuple", data := .seq (a :: b :: c :: r).toArray }).push { cls := .type "tuple_iterator", data := .fields #[.ref s.heap.objs.size, .int 0 0] }).objs.size = s.heap.objs.size + 2 := by rw [Heap.size_push, sz]
  refine wpAny_pure ⟨plainId_quiet F.plain_max_loop _, codeAny_max_loop_first W _ (CmpOf.ints_gt (numAt xs) fun _ _ => intItems_at) _ (fun hm => ?_) (by rw [show (intItems xs).size = xs.size by simp [intItems], ← hl]; simp) ⟨⟨_, Heap.get?_push_of_some _ (Heap.get?_push_size _ rfl), rfl, rfl⟩, (hT.push _).push _⟩ (Heap.get?_push_size _ rfl) fun v h' tk hP hk => ?_⟩
  · rw [z2, sz] at hm
    rcases (show s.heap.objs.size + 2 = s.heap.objs.size + 1 ∨ s.heap.objs.size + 2 = s.heap.objs.size by simpa using hm) with q | q <;> omega
  · have old : ∀ d o, s.heap.get? d = some o → h'.get? d = some o := fun d o e => by
      have ld := Heap.lt_size e
      refine hk d o (fun hm => ?_) (fun q => ?_) (Heap.get?_push_of_some _ (Heap.get?_push_of_some _ (Heap.get?_push_of_some _ e)))
      · rw [sz] at hm
        have : d = s.heap.objs.size + 1 := by simpa using hm
        rw [this] at ld
        exact Nat.lt_irrefl _ (Nat.lt_of_succ_lt ld)
      · rw [z2] at q
        rw [q] at ld
        exact Nat.lt_irrefl _ (Nat.lt_of_succ_lt (Nat.lt_of_succ_lt ld))
    obtain ⟨t, rfl⟩ := intItems_at hP
    obtain ⟨m1, m2⟩ := argBest_gt (numAt xs) ((intItems xs).size - 1)
    have sx : (intItems xs).size = xs.size := by simp [intItems]
    rw [sx] at m1 m2 ⊢
    refine k h' tk _ t old ?_ fun y hy => ?_
    · rw [← hn, numAt_eq]; exact PySem.getD_mem (by rw [List.length_map, Array.length_toList]; omega)
    · rw [← hn] at hy
      obtain ⟨j, hj, rfl⟩ := mem_getD hy
      rw [List.length_map, Array.length_toList] at hj
      rw [← numAt_eq]; exact m2 j (by omega)
end
/-! ## sorted(set(xs)) of whole numbers, however many -/
/-- a new set's object -/
abbrev newSet (w : World) : Obj := { cls := .type "set", dict := none, data := .set #[] 0 (.fresh 0 0 (!w.params.followText "set-order")) }
section
variable {P : Program} {w : World} {A : Around} {E : Value → Shared → Prop} {s : Shared}
theorem set_list {l : Addr} {items : Array Value} (ns : List Int) {Q : Value → Shared → Prop} (hh : A.handled = none) (hl : s.heap.IsList l items) (hit : IntsAre items.toList ns) (hb : ns.length + 1 < scanBound)
    (k : ∀ (h' : Heap) (tk c : Nat), SetR w h' s.heap.objs.size (fun j => decide (j ∈ ns)) c → c ≤ ns.length → (∀ b o, s.heap.get? b = some o → h'.get? b = some o) → Q (.ref s.heap.objs.size) { s with heap := h', toks := tk }) :
    wpAny (model P w) A (call (.type "set") [.ref l]) Q E s := by
  have len : items.size = ns.length := by rw [← Array.length_toList]; exact IntsAre.length hit
  obtain ⟨c, tl, hmro⟩ := F.called_set.mro
  have hmade := F.called_set.made
  have hsub := F.called_set.sub
  refine wpAny_call (codeAny_of_tree ?_)
  show wpAny _ _ (callAny (.type "set") _) _ _ _; refine wpAny_pure ⟨Code.quiet_builtin _ (by decide +kernel), codeAny_builtin F.entry_type_call ?_⟩
  rw [Around.under_plain (weight_type_call_type "set" [.ref l] []) rfl]
  have n1 := F.called_set.notType
  have n2 := F.called_set.canCreate
  have n3 := F.typeCall_set_1 (.ref l)
  (repeat (any_goals (first | assumption | wp_step))); refine codeAny_mono (code_set_led1 (.ref l) (E := E) (Q₁ := fun ob t => ob = .ref s.heap.objs.size ∧ t = { s with heap := s.heap.push (newSet w) }) ⟨rfl, rfl⟩) fun r t hr => ?_
  cases r with
  | error e => exact hr
  | ok fl =>
    cases fl with
    | next => exact hr.elim
    | brk => exact hr.elim
    | cont => exact hr.elim
    | ret ob =>
      obtain ⟨rfl, rfl⟩ := hr
      have hS : (s.heap.push (newSet w)).get? s.heap.objs.size = some (newSet w) := Heap.get?_push_size _ rfl
      have zS : (s.heap.push (newSet w)).objs.size = s.heap.objs.size + 1 := Heap.size_push ..
      have ty : Shared.TypeIs { s with heap := s.heap.push (newSet w) } (.ref s.heap.objs.size) "set" := ⟨_, hS, rfl⟩
      have li := F.called_set.init.lookup
      have bi := F.called_set.init.bind (.ref s.heap.objs.size)
      (repeat (any_goals (first | assumption | wp_step))); refine codeAny_mono (codeAny_call_builtin (R := wants (fun r t => r = .none ∧ ∃ h' tk c, t = { s with heap := h', toks := tk } ∧ SetR w h' s.heap.objs.size (fun j => decide (j ∈ ns)) c ∧ c ≤ ns.length ∧ (∀ b o, s.heap.get? b = some o → h'.get? b = some o)) E) F.called_set.init.plain F.entry_set_init (check_set_init_1 ty ?_)) fun r t hr => ?_
      · obtain ⟨⟨oc, od, oda, osl⟩, hol, hcl, nl, hdl⟩ := hl
        obtain rfl : oc = .type "list" := hcl
        obtain rfl : oda = .seq items nl := hdl
        have hol' : (s.heap.push (newSet w)).get? l = some { cls := .type "list", dict := od, data := .seq items nl, slots := osl } := Heap.get?_push_of_some _ hol
        have s1 := F.sub_list_set
        have s2 := F.sub_list_frozenset
        have nd : (Value.type "list" == Value.type "dict") = false := by decide
        have hl1 : (s.heap.push (newSet w)).IsList l items := ⟨_, hol', rfl, nl, rfl⟩
        have ll : l < s.heap.objs.size := Heap.lt_size hol
        unfold Builtin.«set.__init__» noKeywords Builtin.Frozenset.updateFrom
        generalize hPI : pyIter = PI
        wp_walk
        subst hPI
        refine wpAny_pyIter_list hl1 (wpAny_bind (wpAny_runValue ?_))
        have h3 : A.in1.in1.in1.handled = none := by simp [hh]
        have ne : l ≠ (s.heap.push (newSet w)).objs.size := by rw [zS]; exact Nat.ne_of_lt (Nat.lt_succ_of_lt ll)
        have nf : s.heap.objs.size ∉ [(s.heap.push (newSet w)).objs.size, l] := by
          rw [zS]
          intro q
          rcases (show s.heap.objs.size = s.heap.objs.size + 1 ∨ s.heap.objs.size = l by simpa using q) with q | q
          · exact Nat.ne_of_lt (Nat.lt_succ_self _) q
          · exact Nat.ne_of_gt ll q
        have val : ∀ (i : Nat) (v : Value), items[i]? = some v → ∃ k t, ns[i]? = some k ∧ v = .int k t := fun i v hv => by
          have hi : i < ns.length := by rw [← len]; exact (Array.getElem?_eq_some_iff.mp hv).1
          obtain ⟨t, e⟩ := PyProof.Rows.IntsAre.int_at hit i v (by rw [Array.getElem?_toList]; exact hv)
          exact ⟨ns[i], t, List.getElem?_eq_getElem hi, by rw [e, List.getD_eq_getElem?_getD, List.getElem?_eq_getElem hi] <;> rfl⟩
        refine set_update_ints ((Walks.list h3 _ l ne items).toS) s.heap.objs.size nf ns len hb val (items.size - 0) 0 _ (by omega) (Nat.zero_le _) ⟨⟨_, Heap.get?_push_size _ rfl, rfl, rfl⟩, hl1.push _⟩ ⟨0, Nat.le_refl 0, setR_new_at (Heap.get?_push_of_some _ hS)⟩ fun t' c' hm hc' hS' => ?_
        obtain ⟨h', g2, d', tk', os'⟩ := t'
        obtain rfl : g2 = s.gens := hm.gens
        obtain rfl : d' = s.drawn := hm.drawn
        obtain rfl : os' = s.os := hm.os
        refine wpAny_pure ?_
        show wpAny _ _ (ret Value.none) _ _ _; refine wpAny_pure ⟨rfl, h', tk', c', rfl, hS', by rw [← len]; exact hc', fun b o e => ?_⟩
        have lb : b < s.heap.objs.size := Heap.lt_size e
        refine hm.heap b o (fun q => ?_) (Heap.get?_push_of_some _ (Heap.get?_push_of_some _ e))
        rw [zS] at q
        rcases (show b = s.heap.objs.size ∨ b = s.heap.objs.size + 1 by simpa using q) with q | q
        · exact Nat.ne_of_lt lb q
        · exact Nat.ne_of_lt (Nat.lt_succ_of_lt lb) q
      · cases r with
        | error e => exact hr
        | ok fl =>
          cases fl with
          | ret r =>
            obtain ⟨rfl, h', tk, c', rfl, a1, a2, a3⟩ := hr
            (repeat (any_goals (first | assumption | wp_step))); exact k _ _ _ a1 a2 a3
          | next => exact hr.elim
          | brk => exact hr.elim
          | cont => exact hr.elim
end
end
section
variable [Wtp] [Tbl]
/-! ## max of three or five whole numbers, by data -/
def maxNF : List PyData → Option PyData
  | [.int a, .int b, .int c] => some (.int (max a (max b c)))
  | [.int a, .int b, .int c, .int d, .int e] => some (.int (max a (max b (max c (max d e)))))
  | _ => none
@[simp] theorem o_max3 (a b c : Int) : maxNF [.int a, .int b, .int c] = some (.int (max a (max b c))) := rfl
@[simp] theorem o_max5 (a b c d e : Int) : maxNF [.int a, .int b, .int c, .int d, .int e] = some (.int (max a (max b (max c (max d e))))) := rfl
theorem rts_ints {K : Frg} {H : Hp} {Z : Addr → Prop} : ∀ {vs : List V} {ns : List Int}, RTs K H Z vs (ns.map .int) → vs = ns.map V.int
  | [], [], _ => rfl
  | _ :: _, _ :: _, .cons h1 h2 => by rw [h1.int, List.map_cons, ← rts_ints h2]
section
variable {X : Cx}
theorem c_maxN (hc : X.calm = true) : CallR X (.builtin "max") (rN X.K maxNF) := by
  intro pins s σ H xs us Q I r ⟨Z, ds, e, hz, hd, hf, ho⟩
  unfold maxNF at hf
  split at hf
  · rename_i a b c
    cases hf
    have e1 := rts_ints (ns := [a, b, c]) hd
    subst e1
    have hi := Vals.ints (ns := [a, b, c]) r
    have hl : us.length = 3 := by rw [← r.length]; rfl
    refine max_ints (ns := [a, b, c]) (I.ok.hd hc) ?_ hi (by omega) fun h' tk M t k m1 m2 => ⟨.int _, H, I.kept k, ⟨t, ?_⟩, rout_here ho (.int _)⟩
    · match us, hl with
      | [x, y, z], _ => exact F.args_max3 x y z
    · have a1 := m2 a (by simp)
      have a2 := m2 b (by simp)
      have a3 := m2 c (by simp)
      have : M = max a (max b c) := by
        rcases (show M = a ∨ M = b ∨ M = c by simpa using m1) with h | h | h <;> omega
      rw [this]
  · rename_i a b c d f
    cases hf
    have e1 := rts_ints (ns := [a, b, c, d, f]) hd
    subst e1
    have hi := Vals.ints (ns := [a, b, c, d, f]) r
    have hl : us.length = 5 := by rw [← r.length]; rfl
    refine max_ints (ns := [a, b, c, d, f]) (I.ok.hd hc) ?_ hi (by omega) fun h' tk M t k m1 m2 => ⟨.int _, H, I.kept k, ⟨t, ?_⟩, rout_here ho (.int _)⟩
    · match us, hl with
      | [x, y, z, u, v], _ => exact args_max_5 x y z u v
    · have a1 := m2 a (by simp)
      have a2 := m2 b (by simp)
      have a3 := m2 c (by simp)
      have a4 := m2 d (by simp)
      have a5 := m2 f (by simp)
      have : M = max a (max b (max c (max d f))) := by
        rcases (show M = a ∨ M = b ∨ M = c ∨ M = d ∨ M = f by simpa using m1) with h | h | h | h | h <;> omega
      rw [this]
  · cases hf
end
/-! ## sorted(set(xs)) -/
def insS (k : Int) : List Int → List Int
  | [] => [k]
  | x :: l => if k < x then k :: x :: l else if k = x then x :: l else x :: insS k l
/-- the members, rising, each once -/
def ssI : List Int → List Int
  | [] => []
  | k :: l => insS k (ssI l)
theorem insS_mem {k y : Int} : ∀ {l : List Int}, y ∈ insS k l ↔ y = k ∨ y ∈ l
  | [] => by simp [insS]
  | x :: l => by
    unfold insS
    split
    · simp
    · split
      · rename_i h; subst h; simp
      · rw [List.mem_cons, insS_mem, List.mem_cons]
        constructor
        · rintro (h | h | h)
          · exact .inr (.inl h)
          · exact .inl h
          · exact .inr (.inr h)
        · rintro (h | h | h)
          · exact .inr (.inl h)
          · exact .inl h
          · exact .inr (.inr h)
theorem insS_pw {k : Int} : ∀ {l : List Int}, l.Pairwise (· < ·) → (insS k l).Pairwise (· < ·)
  | [], _ => by simp [insS]
  | x :: l, h => by
    obtain ⟨h1, h2⟩ := List.pairwise_cons.mp h
    unfold insS
    split
    · rename_i c
      refine List.pairwise_cons.mpr ⟨fun y hy => ?_, h⟩
      rcases List.mem_cons.mp hy with rfl | hy
      · exact c
      · have := h1 y hy; omega
    · split
      · exact h
      · rename_i c d
        refine List.pairwise_cons.mpr ⟨fun y hy => ?_, insS_pw h2⟩
        rcases insS_mem.mp hy with rfl | hy
        · omega
        · exact h1 y hy
theorem ssI_mem {y : Int} : ∀ {l : List Int}, y ∈ ssI l ↔ y ∈ l
  | [] => by simp [ssI]
  | k :: l => by rw [ssI, insS_mem, ssI_mem, List.mem_cons]
theorem ssI_pw : ∀ l : List Int, (ssI l).Pairwise (· < ·)
  | [] => .nil
  | k :: l => insS_pw (ssI_pw l)
theorem pwl_nodup {l : List Int} (h : l.Pairwise (· < ·)) : l.Nodup := h.imp fun {a b} q => by omega
theorem pwl_le {l : List Int} (h : l.Pairwise (· < ·)) : l.Pairwise (· ≤ ·) := h.imp fun {a b} q => by omega
theorem ssI_uniq {l m : List Int} (h : m.Pairwise (· < ·)) (e : ∀ y, y ∈ m ↔ y ∈ l) : m = ssI l :=
  pw_uniq (pwl_le h) (pwl_le (ssI_pw l)) ((List.perm_ext_iff_of_nodup (pwl_nodup h) (pwl_nodup (ssI_pw l))).mpr fun y => by rw [e, ssI_mem])
theorem insS_len {k : Int} : ∀ {l : List Int}, (insS k l).length ≤ l.length + 1
  | [] => by simp [insS]
  | x :: l => by
    unfold insS
    split
    · simp
    · split
      · simp
      · have := insS_len (k := k) (l := l); simp; omega
theorem ssI_len : ∀ l : List Int, (ssI l).length ≤ l.length
  | [] => Nat.le_refl _
  | k :: l => by have a := insS_len (k := k) (l := ssI l); have b := ssI_len l; rw [ssI, List.length_cons]; omega
def ssF : List PyData → Option PyData
  | [.list xs] => match intsOf xs with
    | some ns => if ns.length ≤ 4000 then some (.list ((ssI ns).map .int)) else none
    | none => none
  | _ => none
@[simp] theorem o_ss (ns : List Int) : ssF [.list (ns.map .int)] = if ns.length ≤ 4000 then some (.list ((ssI ns).map .int)) else none := by
  show (match intsOf (ns.map .int) with
    | some ns => if ns.length ≤ 4000 then some (PyData.list ((ssI ns).map .int)) else none
    | none => none) = _
  rw [intsOf_map]
theorem rpa_ints {K : Frg} {H : Hp} {Z : Addr → Prop} : ∀ ns : List Int, RpA K H Z (ns.map V.int) (ns.map .int)
  | [] => .nil
  | n :: ns => .cons (.int n) (rpa_ints ns)
section
open PySem.W
variable {P : Program} {w : World} {A : Around} {E : Value → Shared → Prop} {s : Shared} {a : Addr}
theorem each_ints : ∀ {vs : List Value}, (∀ v ∈ vs, ∃ k t, v = Value.int k t) → EachIs (fun v (b : Int) => ∃ t, v = Value.int b t) vs (vs.map Builtin.Re.reRawOf)
  | [], _ => .nil
  | v :: vs, h => by
    obtain ⟨k, t, rfl⟩ := h v (by simp)
    exact .cons ⟨t, rfl⟩ (each_ints fun u hu => h u (by simp [hu]))
theorem ints_each : ∀ {vs : List Value} {ns : List Int}, EachIs (fun v (b : Int) => ∃ t, v = Value.int b t) vs ns → Vals (ns.map V.int) vs
  | _, _, .nil => .nil
  | _, _, .cons ⟨t, e⟩ h => by subst e; exact .cons ⟨t, rfl⟩ (ints_each h)
theorem alike_ints (ns : List Int) : sortB (ns.map .int) = true := by
  unfold sortB
  rw [Bool.and_eq_true, Bool.or_eq_true]
  refine ⟨?_, .inr ?_⟩
  · rw [List.all_eq_true]
    intro x hx
    rw [List.all_eq_true]
    intro y hy
    obtain ⟨i, _, rfl⟩ := List.mem_map.mp hx
    obtain ⟨j, _, rfl⟩ := List.mem_map.mp hy
    rfl
  · rw [List.all_eq_true]
    intro x hx
    obtain ⟨i, _, rfl⟩ := List.mem_map.mp hx
    rfl
theorem sort_set {S : Int → Bool} {n : Nat} {Q : Value → Shared → Prop} (R : SetR w s.heap a S n) (hh : A.handled = none) (hn : n ≤ 4000) (hu : A.units + 2 + 1 < cLine)
    (k : ∀ s' p out ep (ns : List Int), (∀ b o, s.heap.get? b = some o → s'.heap.get? b = some o) → s'.gens = s.gens → s'.os = s.os → s.heap.objs.size ≤ p → s'.heap.get? p = some (seqObj "list" (List.toArray out) ep) → Vals (ns.map V.int) out → ns.Pairwise (· < ·) → (∀ j, j ∈ ns ↔ S j = true) → ns.length ≤ 4000 → Q (.ref p) s') :
    wpAny (model P w) A (call (.builtin "sorted") [.ref a]) Q E s := by
  obtain ⟨o, es, ep, t, ho, hex, hd, g, nd, hm, hb, hf, hcn, hr, hl⟩ := R
  refine Calls.call_function_entry kind_sorted plain_sorted entry_sorted (args_sorted1 _) ?_
  unfold Builtin.«sorted»
  refine wpAny_bind (m := checkCount "sorted" 1 1 _) (wpAny_pure (wpAny_bind (collect_set (A := A.in1) hh ⟨o, ho, hex.1, hd⟩ hf hb hr hl fun s1 vs k1 hz g1 o1 pm => ?_)))
  have vi : ∀ v ∈ vs, ∃ k t, v = Value.int k t := fun v hv => by
    obtain ⟨e, he, q⟩ := List.mem_map.mp (pm.mem_iff.mp hv)
    obtain ⟨k, tk, h1, _⟩ := g e he
    exact ⟨k, tk, by rw [← q]; exact h1⟩
  have vl : vs.length = n := by rw [pm.length_eq, List.length_map, Array.length_toList]; exact hcn
  have pk : (vs.map Builtin.Re.reRawOf).Perm (es.toList.map keyOf) := by
    have q := pm.map Builtin.Re.reRawOf
    rw [List.map_map] at q
    exact q
  have ee := each_ints vi
  have er : ∀ {h : Heap}, EachIs (fun v (b : Int) => ∃ as, Reads h v (.int b) as) vs (vs.map Builtin.Re.reRawOf) := ee.mono fun v b ⟨t, e⟩ => ⟨[], by rw [e]; exact .int b t⟩
  have big : vs.length ≤ sizeLine := by rw [vl]; exact Nat.le_trans (by omega) line_lim
  obtain ⟨hal, hs⟩ := sortB_all (alike_ints (vs.map Builtin.Re.reRawOf))
  refine wpAny_bind (wpAny_newList ?_ big)
  have hoL : (s1.heap.push (seqObj "list" vs.toArray 0)).get? s1.heap.objs.size = some (seqObj "list" vs.toArray 0) := Heap.get?_push_size _ rfl
  refine wpAny_bind (wpAny_holding (wpAny_call_entry slot_list_sort ⟨_, hoL, rfl⟩ entry_list_sort ?_ (args_list_sort _)))
  rw [PySem.W.plain_is_rev]
  refine list_sort_rev_vals hoL (SortsAt.data (each_map (R := fun v d => ∃ as, Reads (sortingHeap (s1.heap.push (seqObj "list" vs.toArray 0)) s1.heap.objs.size vs) v d as) (fun b : Int => PyData.int b) er) hal hs (fun d hd => ?_)) big ?_
  · obtain ⟨i, _, rfl⟩ := List.mem_map.mp hd
    show A.units + 2 + 0 < cLine
    omega
  · obtain ⟨ep2, hat⟩ := sortedHeap_at' (vs := vs) (out := (sortVals (dataKind (sortingHeap (s1.heap.push (seqObj "list" vs.toArray 0)) s1.heap.objs.size vs) ((vs.map Builtin.Re.reRawOf).map PyData.int)) false vs vs).toArray) hoL
    have sv := sortVals_data (enc := fun b : Int => PyData.int b) false ee (er (h := sortingHeap (s1.heap.push (seqObj "list" vs.toArray 0)) s1.heap.objs.size vs)) hal
    have pn : (sortT false PyData.int (vs.map Builtin.Re.reRawOf)).Perm (es.toList.map keyOf) := (sortT_perm ..).trans pk
    have le := sortI_pw (vs.map Builtin.Re.reRawOf)
    have lt := lt_of_le_nodup _ le (pn.nodup_iff.mpr nd)
    refine ⟨_, rfl, wpAny_pure ⟨_, rfl, k _ s1.heap.objs.size _ ep2 (sortT false PyData.int (vs.map Builtin.Re.reRawOf)) (fun b u e => ?_) g1 o1 hz hat (ints_each sv) lt (fun j => by rw [pn.mem_iff, ← hm j]) ?_⟩⟩
    · have q := k1 b u e
      exact sortedHeap_old' (Nat.ne_of_lt (Heap.lt_size q)) (Heap.get?_push_of_some _ q)
    · rw [pn.length_eq, List.length_map, Array.length_toList, hcn]; exact hn
end
section
variable {M : Md} {X : Cx} {B : Tb} {k : Nat} {cs : En → Sto → Rs (List Wv)} {p p2 pos pos2 : Pos} {e : Expr}
def rSetL (K : Frg) (w : World) : List V → Hp → VK → Prop := fun vs H Q => ∃ (l : Addr) (ns : List Int), vs = [.ref l] ∧ SqL K H l (ns.map V.int) ∧ ns.length ≤ 4000 ∧ ∀ q c, c ≤ ns.length → H q = none → Q (.ref q) (upd H q (SetO w q (fun j => decide (j ∈ ns)) c))
theorem cr_setL (hc : X.calm = true) : CallR X (.type "set") (rSetL X.K X.w) := by
  intro pins s σ H vs us Q I r ⟨l, ns, e, hs, hn, q⟩
  subst e
  obtain ⟨its, rv, hl, _⟩ := I.list hs
  rw [Vals.ref1 r]
  refine set_list ns (I.ok.hd hc) hl.isList (by simpa using rv.ints) (by show ns.length + 1 < 4096; omega) fun h' tk c R hcn kp => ?_
  exact ⟨.ref _, _, I.laid (t' := tk) kp (Nat.le_refl _) (setO_new R), rfl, q _ c hcn (I.hok.fresh (Nat.le_refl _))⟩
def rSortSet (w : World) : List V → Hp → VK → Prop := fun vs H Q => ∃ (a : Addr) (S : Int → Bool) (n : Nat), vs = [V.ref a] ∧ H a = some (SetO w a S n) ∧ n ≤ 4000 ∧
  ∀ (ns : List Int) (p : Addr), ns.Pairwise (· < ·) → (∀ k : Int, k ∈ ns ↔ S k = true) → H p = none → Q (.ref p) (upd H p (.lst (ns.map V.int)))
theorem cr_sortSet (hc : X.calm = true) (hr : L2H.RoomH k X.A) : CallR X (.builtin "sorted") (rSortSet X.w) := by
  intro pins s σ H vs us Q I r ⟨a, S, n, e, ha, hn, q⟩
  subst e
  have R := setO_get I ha
  rw [Vals.ref1 r]
  have hu := room_eq hr (show 60 ≤ 60 by decide)
  refine sort_set R (I.ok.hd hc) hn (by omega) fun s' p out ep ns kp g o hp hat rv lt hm ln => ?_
  have hlen : (ns.map V.int).length ≤ sizeLine := by rw [List.length_map]; exact Nat.le_trans (by omega) line_lim
  have J : Inv X pins σ (upd H p (.lst (ns.map V.int))) { s with heap := s'.heap, gens := s'.gens, drawn := s'.drawn, toks := s'.toks } :=
    I.call (ch := []) (Un.laid kp hp (I.hok.fresh hp)) (I.hok.laid kp hp ⟨hlen, out, ep, rv, hat⟩) (by rw [g]; exact I.bare) (fun _ z => nomatch z)
  have es : s' = { s with heap := s'.heap, gens := s'.gens, drawn := s'.drawn, toks := s'.toks } := by
    obtain ⟨_, _, _, _, _⟩ := s'
    obtain ⟨_, _, _, _, _⟩ := s
    cases o
    rfl
  rw [es]
  exact ⟨.ref p, _, J, rfl, q ns p lt hm (I.hok.fresh hp)⟩
theorem de_ss (c : Cxt M X B k) (j jz : Nat) (hg : B.gs[j]? = some ("sorted" : Str)) (hm : M.mg "sorted" = none) (hgz : B.gs[jz]? = some ("set" : Str)) (hmz : M.mg "set" = none) (hv : bootBuiltins "sorted" = some (.builtin "sorted")) (hvz : bootBuiltins "set" = some (.type "set")) (ha : DA X [e] cs)
    (he : starEach [.Call (.Name "set" p2) [e] [] pos2] X.env = (false, eval (.Call (.Name "set" p2) [e] [] pos2) X.env) :: starEach [] X.env := by rfl) (he2 : starEach [e] X.env = (false, eval e X.env) :: starEach [] X.env := by rfl) :
    DE X (.Call (.Name "sorted" p) [.Call (.Name "set" p2) [e] [] pos2] [] pos) (eOpN ssF cs) := by
  refine ⟨fun W tk => PE.imp (pe_callB (cr_sortSet c.calm c.roomH) (c.gl j _ hg) (by rw [c.mg]; exact hm) hv (pa_cons (pe_callTy (cr_setL c.calm) (c.gl jz _ hgz) (by rw [c.mg]; exact hmz) hvz (ha.pa W tk) (by decide) (by decide) he2 rfl) pa_nil he) (by decide) (by decide) he rfl) fun σ H Q ⟨m, env, st, S, R, hp⟩ => ?_⟩
  unfold eOpN at hp
  rw [Rs.post_bind] at hp
  refine ⟨m, env, st, S, R, Rs.post_mono hp (fun ws st1 q vs H1 m1 f1 S1 r1 => ?_) fun _ _ q => q⟩
  split at q
  · rename_i ds e1
    have rt := looks_rt S1 r1 e1
    obtain ⟨y, e2, qq⟩ := ret1_post q
    unfold ssF at e2
    split at e2
    · rename_i xs
      split at e2
      · rename_i ns q2
        split at e2
        · rename_i hl
          cases e2
          obtain ⟨v, rfl, h⟩ := rts1 rt
          obtain ⟨a, ws, rfl, h1, h2⟩ := h.lst
          have ex := intsOf_eq q2
          subst ex
          rw [h2.ints] at h1
          refine ⟨a, ns, rfl, h1.sq, hl, fun b c hc hb => ⟨b, _, c, rfl, upd_same, by omega, fun ns2 p lt hm2 hp => ?_⟩⟩
          have en : ns2 = ssI ns := ssI_uniq lt fun y => by rw [hm2]; simp
          subst en
          have g1 := grow_upd (o := SetO X.w b (fun j => decide (j ∈ ns)) c) hb
          have f2 : Fol m1 st1.length H1 m1 st1.length (upd H1 b (SetO X.w b (fun j => decide (j ∈ ns)) c)) := .same g1
          have S2 := S1.grow g1
          exact rout_lst (fun a => S2.fresh) (okE.out (f1.trans f2) S2 qq) (rpa_ints (ssI ns)) p hp
        · cases e2
      · cases e2
    · cases e2
  · exact q.elim
end
end
section
variable [Tbl]
def topS (i : Nat) : Stmt := PySem.Challenge.pw_bentstones_k45_whole_rows.main.body.getD i (.Pass ⟨0, 0, 0, 0⟩)
def w_MOST_FAR : PyData := (.int 1000)
def w_MOST_JOINT : PyData := (.int 9)
def w_MOST_LEGS : PyData := (.int 6)
def w_MOST_LONG : PyData := (.int 60)
def w_MOST_ROWS : PyData := (.int 6)
def w_MOST_SPAN : PyData := (.int 80)
def w_MOST_STONE : PyData := (.int 20)
def w_MOST_STONES : PyData := (.int 12)
def w_MOST_WIDTH : PyData := (.int 9)
def w_STEPS : PyData := (.tuple [(.tuple [(.int 1), (.int 0)]), (.tuple [(.int 0), (.int 1)]), (.tuple [(.int (-1)), (.int 0)]), (.tuple [(.int 0), (.int (-1))])])
def w_WAYS : PyData := (.tuple [(.str "east"), (.str "north"), (.str "west"), (.str "south")])
def y_WAYS : List Str := ["east", "north", "west", "south"]
@[reducible] instance theW : Wtp := ⟨[(.tuple [(.tuple [(.int 1), (.int 0)]), (.tuple [(.int 0), (.int 1)]), (.tuple [(.int (-1)), (.int 0)]), (.tuple [(.int 0), (.int (-1))])]), (.tuple [(.int 1), (.int 0)]), (.tuple [(.int 0), (.int 1)]), (.tuple [(.int (-1)), (.int 0)]), (.tuple [(.int 0), (.int (-1))]), (.tuple [(.str "east"), (.str "north"), (.str "west"), (.str "south")])]⟩
structure Hs (M : Md) : Prop where
  z_all : M.mg "all" = none
  z_bool : M.mg "bool" = none
  z_enumerate : M.mg "enumerate" = none
  z_int : M.mg "int" = none
  z_isinstance : M.mg "isinstance" = none
  z_len : M.mg "len" = none
  z_max : M.mg "max" = none
  z_min : M.mg "min" = none
  z_range : M.mg "range" = none
  z_set : M.mg "set" = none
  z_sorted : M.mg "sorted" = none
  z_str : M.mg "str" = none
  z_sum : M.mg "sum" = none
  z_tuple : M.mg "tuple" = none
  z_zip : M.mg "zip" = none
  g_MOST_FAR : Gw M "MOST_FAR" w_MOST_FAR
  g_MOST_JOINT : Gw M "MOST_JOINT" w_MOST_JOINT
  g_MOST_LEGS : Gw M "MOST_LEGS" w_MOST_LEGS
  g_MOST_LONG : Gw M "MOST_LONG" w_MOST_LONG
  g_MOST_ROWS : Gw M "MOST_ROWS" w_MOST_ROWS
  g_MOST_SPAN : Gw M "MOST_SPAN" w_MOST_SPAN
  g_MOST_STONE : Gw M "MOST_STONE" w_MOST_STONE
  g_MOST_STONES : Gw M "MOST_STONES" w_MOST_STONES
  g_MOST_WIDTH : Gw M "MOST_WIDTH" w_MOST_WIDTH
  g_STEPS : Gw M "STEPS" w_STEPS
  g_WAYS : Gw M "WAYS" w_WAYS
  i_WAYS : Gix M "WAYS" y_WAYS
theorem q_MOST_FAR {M : Md} {X : Cx} {B : Tb} {k : Nat} {p : Pos} (T : Hs M) (c : Cxt M X B k) (j : Nat) (h : B.gs[j]? = some "MOST_FAR") : DE X (.Name "MOST_FAR" p) (eK w_MOST_FAR) := de_gw c j h T.g_MOST_FAR
theorem q_MOST_JOINT {M : Md} {X : Cx} {B : Tb} {k : Nat} {p : Pos} (T : Hs M) (c : Cxt M X B k) (j : Nat) (h : B.gs[j]? = some "MOST_JOINT") : DE X (.Name "MOST_JOINT" p) (eK w_MOST_JOINT) := de_gw c j h T.g_MOST_JOINT
theorem q_MOST_LEGS {M : Md} {X : Cx} {B : Tb} {k : Nat} {p : Pos} (T : Hs M) (c : Cxt M X B k) (j : Nat) (h : B.gs[j]? = some "MOST_LEGS") : DE X (.Name "MOST_LEGS" p) (eK w_MOST_LEGS) := de_gw c j h T.g_MOST_LEGS
theorem q_MOST_LONG {M : Md} {X : Cx} {B : Tb} {k : Nat} {p : Pos} (T : Hs M) (c : Cxt M X B k) (j : Nat) (h : B.gs[j]? = some "MOST_LONG") : DE X (.Name "MOST_LONG" p) (eK w_MOST_LONG) := de_gw c j h T.g_MOST_LONG
theorem q_MOST_ROWS {M : Md} {X : Cx} {B : Tb} {k : Nat} {p : Pos} (T : Hs M) (c : Cxt M X B k) (j : Nat) (h : B.gs[j]? = some "MOST_ROWS") : DE X (.Name "MOST_ROWS" p) (eK w_MOST_ROWS) := de_gw c j h T.g_MOST_ROWS
theorem q_MOST_SPAN {M : Md} {X : Cx} {B : Tb} {k : Nat} {p : Pos} (T : Hs M) (c : Cxt M X B k) (j : Nat) (h : B.gs[j]? = some "MOST_SPAN") : DE X (.Name "MOST_SPAN" p) (eK w_MOST_SPAN) := de_gw c j h T.g_MOST_SPAN
theorem q_MOST_STONE {M : Md} {X : Cx} {B : Tb} {k : Nat} {p : Pos} (T : Hs M) (c : Cxt M X B k) (j : Nat) (h : B.gs[j]? = some "MOST_STONE") : DE X (.Name "MOST_STONE" p) (eK w_MOST_STONE) := de_gw c j h T.g_MOST_STONE
theorem q_MOST_STONES {M : Md} {X : Cx} {B : Tb} {k : Nat} {p : Pos} (T : Hs M) (c : Cxt M X B k) (j : Nat) (h : B.gs[j]? = some "MOST_STONES") : DE X (.Name "MOST_STONES" p) (eK w_MOST_STONES) := de_gw c j h T.g_MOST_STONES
theorem q_MOST_WIDTH {M : Md} {X : Cx} {B : Tb} {k : Nat} {p : Pos} (T : Hs M) (c : Cxt M X B k) (j : Nat) (h : B.gs[j]? = some "MOST_WIDTH") : DE X (.Name "MOST_WIDTH" p) (eK w_MOST_WIDTH) := de_gw c j h T.g_MOST_WIDTH
theorem q_STEPS {M : Md} {X : Cx} {B : Tb} {k : Nat} {p : Pos} (T : Hs M) (c : Cxt M X B k) (j : Nat) (h : B.gs[j]? = some "STEPS") : DE X (.Name "STEPS" p) (eK w_STEPS) := de_gw c j h T.g_STEPS
theorem q_WAYS {M : Md} {X : Cx} {B : Tb} {k : Nat} {p : Pos} (T : Hs M) (c : Cxt M X B k) (j : Nat) (h : B.gs[j]? = some "WAYS") : DE X (.Name "WAYS" p) (eK w_WAYS) := de_gw c j h T.g_WAYS
theorem ix_WAYS {M : Md} {X : Cx} {B : Tb} {k : Nat} {p1 apos pos : Pos} {e : Expr} {cs : En → Sto → Rs (List Wv)} (T : Hs M) (c : Cxt M X B k) (j : Nat) (h : B.gs[j]? = some "WAYS") (ha : DA X [e] cs)
    (hfew : ((backTo pos (starEach [e] X.env)).all (fun x => !x.1) && (backToKw pos (keywordEach [] X.env)).all (fun x => x.1.isSome)
      && decide ([e].length + ([] : List Keyword).length + (if ([] : List Keyword).isEmpty then 0 else 1) < 30)) = true := by rfl)
    (hline : (apos.endLine == pos.line) = true := by rfl) (hs : starEach [e] X.env = (false, eval e X.env) :: starEach [] X.env := by rfl) : DE X (.Call (.Attribute (.Name "WAYS" p1) "index" apos) [e] [] pos) (eGix y_WAYS cs) := de_gix c j h T.i_WAYS ha hfew hline hs
abbrev s__law_pen_of : Stmt := topS 74
def B__law_pen_of : Tb := ⟨["_law_cell", "_law_left"], [0, 1], [0, 1], [0, 1], ["max", "int"], [], true, false, none⟩
theorem sc__law_pen_of : FnScope B__law_pen_of.N ["_law_cell"] (defScope s__law_pen_of) := ⟨rfl, rfl, rfl, by decide +kernel, rfl, by decide +kernel, by decide +kernel⟩
theorem t__law_pen_of : fnT B__law_pen_of (defScope s__law_pen_of) = true := by decide +kernel
noncomputable def d__law_pen_of : En → Sto → SR :=
    (sSeq (sSet 1 (eOpN max2F (aCons (eVar 0) (aCons (eOp2 subD (eK (.int 0)) (eVar 0)) aNil))))
    (sRet (eNewL (aCons (eVar 1) (aCons (eOpN intF (aCons (eOp2 geD (eVar 1) (eOp2 powD (eK (.int 10)) (eK (.int 18)))) aNil)) (aCons (eOp2 modD (eVar 1) (eK (.int 1000003))) aNil))))))
noncomputable def m__law_pen_of : List Wv → Sto → Rs Wv := mkF 1 2 d__law_pen_of
theorem b__law_pen_of {M : Md} {X : Cx} (T : Hs M)  (c : Cxt M X B__law_pen_of 0) : DB X (defBody s__law_pen_of) d__law_pen_of :=
    (db_cons (ds_set c 1 rfl (by decide) (de_callB (id := "max") c (c_max2 c.calm) 0 rfl T.z_max (by decide +kernel) (da_cons (de_var c 0 rfl (by decide)) (da_cons (de_bin o_sub de_int (de_var c 0 rfl (by decide))) da_nil))))
    (db_one (ds_ret (de_newl (da_cons (de_var c 1 rfl (by decide)) (da_cons (de_callT (T := "int") c c_int 1 rfl T.z_int (by decide +kernel) (da_cons (de_cmp (o_ge c.roomH) (de_var c 1 rfl (by decide)) (de_bin o_pow de_int de_int) (nomark _)) da_nil)) (da_cons (de_bin o_mod (de_var c 1 rfl (by decide)) de_int) da_nil)))))))
theorem h__law_pen_of {M : Md} (T : Hs M)  (F : TopFn M "_law_pen_of" s__law_pen_of ["_law_cell"]) : Has M false 1 "_law_pen_of" ["_law_cell"] m__law_pen_of := has_of F sc__law_pen_of t__law_pen_of rfl rfl (fun X c => b__law_pen_of T  c)
abbrev s__law_next : Stmt := topS 73
def B__law_next : Tb := ⟨["_law_seed"], [0], [0], [0], [], [], true, false, none⟩
theorem sc__law_next : FnScope B__law_next.N ["_law_seed"] (defScope s__law_next) := ⟨rfl, rfl, rfl, by decide +kernel, rfl, by decide +kernel, by decide +kernel⟩
theorem t__law_next : fnT B__law_next (defScope s__law_next) = true := by decide +kernel
noncomputable def d__law_next : En → Sto → SR :=
    (sSeq (sSet 0 (eOp2 modD (eOp2 addD (eVar 0) (eK (.int 7919))) (eK (.int 2147483647))))
    (sRet (eOp2 modD (eOp2 addD (eOp2 addD (eOp2 mulD (eVar 0) (eVar 0)) (eOp2 mulD (eK (.int 48271)) (eVar 0))) (eK (.int 12345))) (eK (.int 2147483629)))))
noncomputable def m__law_next : List Wv → Sto → Rs Wv := mkF 1 1 d__law_next
theorem b__law_next {M : Md} {X : Cx} (T : Hs M)  (c : Cxt M X B__law_next 0) : DB X (defBody s__law_next) d__law_next :=
    (db_cons (ds_set c 0 rfl (by decide) (de_bin o_mod (de_bin o_add (de_var c 0 rfl (by decide)) de_int) de_int))
    (db_one (ds_ret (de_bin o_mod (de_bin o_add (de_bin o_add (de_bin o_mul (de_var c 0 rfl (by decide)) (de_var c 0 rfl (by decide))) (de_bin o_mul de_int (de_var c 0 rfl (by decide)))) de_int) de_int))))
theorem h__law_next {M : Md} (T : Hs M)  (F : TopFn M "_law_next" s__law_next ["_law_seed"]) : Has M false 1 "_law_next" ["_law_seed"] m__law_next := has_of F sc__law_next t__law_next rfl rfl (fun X c => b__law_next T  c)
abbrev s__law_draw : Stmt := topS 75
def B__law_draw : Tb := ⟨["_law_pen", "_law_many", "_law_found"], [0, 1, 2], [0, 1, 2], [0, 1, 2], ["_law_next"], [], true, false, none⟩
theorem sc__law_draw : FnScope B__law_draw.N ["_law_pen", "_law_many"] (defScope s__law_draw) := ⟨rfl, rfl, rfl, by decide +kernel, rfl, by decide +kernel, by decide +kernel⟩
theorem t__law_draw : fnT B__law_draw (defScope s__law_draw) = true := by decide +kernel
noncomputable def d__law_draw : En → Sto → SR :=
    (sSeq (sIf (tAnd2 (tBl (eOp2 eqD (eOp2 ixD (eVar 0) (eK (.int 1))) (eK (.int 1)))) (tBl (eOp2 gtD (eOp2 ixD (eVar 0) (eK (.int 0))) (eK (.int 0))))) (sSeq (sSet 2 (eOp2 modD (eOp2 ixD (eVar 0) (eK (.int 0))) (eVar 1)))
    (sSeq (sIx (eVar 0) (eK (.int 0)) (eOp2 divD (eOp2 ixD (eVar 0) (eK (.int 0))) (eVar 1)))
    (sRet (eVar 2)))) sNil)
    (sSeq (sIx (eVar 0) (eK (.int 2)) (eCall m__law_next (aCons (eOp2 addD (eCall m__law_next (aCons (eOp2 ixD (eVar 0) (eK (.int 2))) aNil)) (eK (.int 7))) aNil)))
    (sRet (eOp2 modD (eOp2 divD (eOp2 ixD (eVar 0) (eK (.int 2))) (eK (.int 64))) (eVar 1)))))
noncomputable def m__law_draw : List Wv → Sto → Rs Wv := mkF 2 3 d__law_draw
theorem b__law_draw {M : Md} {X : Cx} (T : Hs M) (h__law_next : Has M false 1 "_law_next" ["_law_seed"] m__law_next) (c : Cxt M X B__law_draw 1) : DB X (defBody s__law_draw) d__law_draw :=
    (db_cons (ds_if (DW.dt (dw_and (dt_cmp (o_eq c.roomH) (de_ix c.roomH (de_var c 0 rfl (by decide)) de_int (fun _ _ => rfl)) de_int (nomark _)) (dw_and1 (dt_cmp (o_gt c.roomH) (de_ix c.roomH (de_var c 0 rfl (by decide)) de_int (fun _ _ => rfl)) de_int (nomark _))))) (db_cons (ds_set c 2 rfl (by decide) (de_bin o_mod (de_ix c.roomH (de_var c 0 rfl (by decide)) de_int (fun _ _ => rfl)) (de_var c 1 rfl (by decide))))
    (db_cons (ds_setix c (de_var c 0 rfl (by decide)) de_int (de_bin o_div (de_ix c.roomH (de_var c 0 rfl (by decide)) de_int (fun _ _ => rfl)) (de_var c 1 rfl (by decide))))
    (db_one (ds_ret (de_var c 2 rfl (by decide)))))) db_nil)
    (db_cons (ds_setix c (de_var c 0 rfl (by decide)) de_int (de_fn c (h__law_next.up (by decide)) 0 rfl (da_cons (de_bin o_add (de_fn c (h__law_next.up (by decide)) 0 rfl (da_cons (de_ix c.roomH (de_var c 0 rfl (by decide)) de_int (fun _ _ => rfl)) da_nil)) de_int) da_nil)))
    (db_one (ds_ret (de_bin o_mod (de_bin o_div (de_ix c.roomH (de_var c 0 rfl (by decide)) de_int (fun _ _ => rfl)) de_int) (de_var c 1 rfl (by decide)))))))
theorem h__law_draw {M : Md} (T : Hs M) (h__law_next : Has M false 1 "_law_next" ["_law_seed"] m__law_next) (F : TopFn M "_law_draw" s__law_draw ["_law_pen", "_law_many"]) : Has M false 2 "_law_draw" ["_law_pen", "_law_many"] m__law_draw := has_of F sc__law_draw t__law_draw rfl rfl (fun X c => b__law_draw T h__law_next c)
abbrev s__law_joints : Stmt := topS 82
def B__law_joints : Tb := ⟨["_law_pen", "_law_low"], [0, 1], [0, 1], [0, 1], ["_law_draw", "min"], [], true, false, none⟩
theorem sc__law_joints : FnScope B__law_joints.N ["_law_pen"] (defScope s__law_joints) := ⟨rfl, rfl, rfl, by decide +kernel, rfl, by decide +kernel, by decide +kernel⟩
theorem t__law_joints : fnT B__law_joints (defScope s__law_joints) = true := by decide +kernel
noncomputable def d__law_joints : En → Sto → SR :=
    (sSeq (sSet 1 (eOp2 ixD (eLst (aCons (eK (.int 0)) (aCons (eK (.int 1)) (aCons (eCall m__law_draw (aCons (eVar 0) (aCons (eK (.int 10)) aNil))) aNil)))) (eCall m__law_draw (aCons (eVar 0) (aCons (eK (.int 3)) aNil)))))
    (sRet (eTup (aCons (eVar 1) (aCons (eOp2 addD (eVar 1) (eCall m__law_draw (aCons (eVar 0) (aCons (eOp2 ixD (eLst (aCons (eOp2 subD (eK (.int 10)) (eVar 1)) (aCons (eOpN min2F (aCons (eK (.int 3)) (aCons (eOp2 subD (eK (.int 10)) (eVar 1)) aNil))) aNil))) (eCall m__law_draw (aCons (eVar 0) (aCons (eK (.int 2)) aNil)))) aNil)))) aNil)))))
noncomputable def m__law_joints : List Wv → Sto → Rs Wv := mkF 1 2 d__law_joints
theorem b__law_joints {M : Md} {X : Cx} (T : Hs M) (h__law_draw : Has M false 2 "_law_draw" ["_law_pen", "_law_many"] m__law_draw) (c : Cxt M X B__law_joints 2) : DB X (defBody s__law_joints) d__law_joints :=
    (db_cons (ds_set c 1 rfl (by decide) (de_ix c.roomH (de_lst (da_cons de_int (da_cons de_int (da_cons (de_fn c (h__law_draw.up (by decide)) 0 rfl (da_cons (de_var c 0 rfl (by decide)) (da_cons de_int da_nil))) da_nil)))) (de_fn c (h__law_draw.up (by decide)) 0 rfl (da_cons (de_var c 0 rfl (by decide)) (da_cons de_int da_nil))) (fun _ _ => rfl)))
    (db_one (ds_ret (de_tup (da_cons (de_var c 1 rfl (by decide)) (da_cons (de_bin o_add (de_var c 1 rfl (by decide)) (de_fn c (h__law_draw.up (by decide)) 0 rfl (da_cons (de_var c 0 rfl (by decide)) (da_cons (de_ix c.roomH (de_lst (da_cons (de_bin o_sub de_int (de_var c 1 rfl (by decide))) (da_cons (de_callB (id := "min") c (c_min2 c.calm) 1 rfl T.z_min (by decide +kernel) (da_cons de_int (da_cons (de_bin o_sub de_int (de_var c 1 rfl (by decide))) da_nil))) da_nil))) (de_fn c (h__law_draw.up (by decide)) 0 rfl (da_cons (de_var c 0 rfl (by decide)) (da_cons de_int da_nil))) (fun _ _ => rfl)) da_nil)))) da_nil))))))
theorem h__law_joints {M : Md} (T : Hs M) (h__law_draw : Has M false 2 "_law_draw" ["_law_pen", "_law_many"] m__law_draw) (F : TopFn M "_law_joints" s__law_joints ["_law_pen"]) : Has M false 3 "_law_joints" ["_law_pen"] m__law_joints := has_of F sc__law_joints t__law_joints rfl rfl (fun X c => b__law_joints T h__law_draw c)
abbrev s__law_cell_at : Stmt := topS 72
def B__law_cell_at : Tb := ⟨["_law_script", "_law_k"], [0, 1], [0, 1], [0, 1], ["len"], [], true, false, none⟩
theorem sc__law_cell_at : FnScope B__law_cell_at.N ["_law_script", "_law_k"] (defScope s__law_cell_at) := ⟨rfl, rfl, rfl, by decide +kernel, rfl, by decide +kernel, by decide +kernel⟩
theorem t__law_cell_at : fnT B__law_cell_at (defScope s__law_cell_at) = true := by decide +kernel
noncomputable def d__law_cell_at : En → Sto → SR :=
    (sSeq (sIf (tBl (eOp2 ltD (eVar 1) (eOpN lenF (aCons (eVar 0) aNil)))) (sRet (eOp2 ixD (eVar 0) (eVar 1))) sNil)
    (sRet (eK (.int 0))))
noncomputable def m__law_cell_at : List Wv → Sto → Rs Wv := mkF 2 2 d__law_cell_at
theorem b__law_cell_at {M : Md} {X : Cx} (T : Hs M)  (c : Cxt M X B__law_cell_at 0) : DB X (defBody s__law_cell_at) d__law_cell_at :=
    (db_cons (ds_if (dt_cmp (o_lt c.roomH) (de_var c 1 rfl (by decide)) (de_callB (id := "len") c c_len 0 rfl T.z_len (by decide +kernel) (da_cons (de_var c 0 rfl (by decide)) da_nil)) (nomark _)) (db_one (ds_ret (de_ix c.roomH (de_var c 0 rfl (by decide)) (de_var c 1 rfl (by decide)) (fun _ _ => rfl)))) db_nil)
    (db_one (ds_ret de_int)))
theorem h__law_cell_at {M : Md} (T : Hs M)  (F : TopFn M "_law_cell_at" s__law_cell_at ["_law_script", "_law_k"]) : Has M false 1 "_law_cell_at" ["_law_script", "_law_k"] m__law_cell_at := has_of F sc__law_cell_at t__law_cell_at rfl rfl (fun X c => b__law_cell_at T  c)
abbrev s_quarter : Stmt := topS 21
def B_quarter : Tb := ⟨["one", "other"], [0, 1], [0, 1], [0, 1], ["WAYS"], [], true, false, none⟩
theorem sc_quarter : FnScope B_quarter.N ["one", "other"] (defScope s_quarter) := ⟨rfl, rfl, rfl, by decide +kernel, rfl, by decide +kernel, by decide +kernel⟩
theorem t_quarter : fnT B_quarter (defScope s_quarter) = true := by decide +kernel
noncomputable def d_quarter : En → Sto → SR :=
    (sRet (eOp2 modD (eOp2 subD (eGix y_WAYS (aCons (eVar 1) aNil)) (eGix y_WAYS (aCons (eVar 0) aNil))) (eK (.int 4))))
noncomputable def m_quarter : List Wv → Sto → Rs Wv := mkF 2 2 d_quarter
theorem b_quarter {M : Md} {X : Cx} (T : Hs M)  (c : Cxt M X B_quarter 0) : DB X (defBody s_quarter) d_quarter :=
    (db_one (ds_ret (de_bin o_mod (de_bin o_sub (ix_WAYS T c 0 rfl (da_cons (de_var c 1 rfl (by decide)) da_nil)) (ix_WAYS T c 0 rfl (da_cons (de_var c 0 rfl (by decide)) da_nil))) de_int)))
theorem h_quarter {M : Md} (T : Hs M)  (F : TopFn M "quarter" s_quarter ["one", "other"]) : Has M false 1 "quarter" ["one", "other"] m_quarter := has_of F sc_quarter t_quarter rfl rfl (fun X c => b_quarter T  c)
abbrev s_bend_sides : Stmt := topS 27
def B_bend_sides : Tb := ⟨["path", "turns", ".0", "one", "other", "turn"], [0, 1], [0, 1], [0, 1], ["zip"], [], true, false, none⟩
theorem sc_bend_sides : FnScope B_bend_sides.N ["path"] (defScope s_bend_sides) := ⟨rfl, rfl, rfl, by decide +kernel, rfl, by decide +kernel, by decide +kernel⟩
theorem t_bend_sides : fnT B_bend_sides (defScope s_bend_sides) = true := by decide +kernel
noncomputable def d_bend_sides : En → Sto → SR :=
    (sSeq (sSet 1 (eLc (cZip2 (aCons (eOp2 ixD (eVar 0) (eK (.int 2))) (aCons (eSlice (eOp2 ixD (eVar 0) (eK (.int 2))) (pSome (eK (.int 1))) pNo) aNil))) (gTp (gCn (gN 3) (gCn (gN 4) gNl))) tYs (eCall m_quarter (aCons (eOp2 ixD (eVar 3) (eK (.int 0))) (aCons (eOp2 ixD (eVar 4) (eK (.int 0))) aNil))) [2, 3, 4]))
    (sRet (eLc (cSeq (eVar 1)) (gN 5) tYs (eIf (tBl (eOp2 eqD (eVar 5) (eK (.int 1)))) (eK (.str "left")) (eK (.str "right"))) [2, 5])))
noncomputable def m_bend_sides : List Wv → Sto → Rs Wv := mkF 1 6 d_bend_sides
theorem b_bend_sides {M : Md} {X : Cx} (T : Hs M) (h_quarter : Has M false 1 "quarter" ["one", "other"] m_quarter) (c : Cxt M X B_bend_sides 1) : DB X (defBody s_bend_sides) d_bend_sides :=
    (db_cons (ds_setlc c 1 rfl (by decide) rfl (lc_ok c [(".0", 2), ("one", 3), ("other", 4)] [2, 3, 4] [2, 3, 4] ["quarter"] [] (by decide +kernel) (di_zip2 c 0 rfl T.z_zip (da_cons (de_ix c.roomH (de_var c 0 rfl (by decide)) de_int (fun _ _ => rfl)) (da_cons (de_slice (de_ix c.roomH (de_var c 0 rfl (by decide)) de_int (fun _ _ => rfl)) (do_some de_int) do_no) da_nil))) (by decide) (fun _ c1 => (dg_tup c1 (dgs_cons (dg_name c1 [2, 3, 4] 3 rfl (by decide) (by decide)) (dgs_cons (dg_name c1 [2, 3, 4] 4 rfl (by decide) (by decide)) (dgs_nil [2, 3, 4]))) (asks_cons (asks_cons asks_nil)))) (fun _ c1 => dts_nil) (fun _ c1 => (de_fn c1 (h_quarter.up (by decide)) 0 rfl (da_cons (de_ix c1.roomH (de_var c1 3 rfl (by decide)) de_int (fun _ _ => rfl)) (da_cons (de_ix c1.roomH (de_var c1 4 rfl (by decide)) de_int (fun _ _ => rfl)) da_nil))))) rfl (by decide +kernel))
    (db_one (ds_ret (de_lc c (lc_ok c [(".0", 2), ("turn", 5)] [2, 5] [2, 5] [] [] (by decide +kernel) (di_seq (de_var c 1 rfl (by decide))) (by decide) (fun _ c2 => (dg_name c2 [2, 5] 5 rfl (by decide) (by decide))) (fun _ c2 => dts_nil) (fun _ c2 => (de_if (dt_cmp (o_eq c2.roomH) (de_var c2 5 rfl (by decide)) de_int (nomark _)) de_str de_str)))))))
theorem h_bend_sides {M : Md} (T : Hs M) (h_quarter : Has M false 1 "quarter" ["one", "other"] m_quarter) (F : TopFn M "bend_sides" s_bend_sides ["path"]) : Has M false 2 "bend_sides" ["path"] m_bend_sides := has_of F sc_bend_sides t_bend_sides rfl rfl (fun X c => b_bend_sides T h_quarter c)
abbrev s_gone : Stmt := topS 25
def B_gone : Tb := ⟨["x", "y", "way", "far", "step"], [0, 1, 2, 3, 4], [0, 1, 2, 3, 4], [0, 1, 2, 3, 4], ["STEPS", "WAYS"], [], true, false, none⟩
theorem sc_gone : FnScope B_gone.N ["x", "y", "way", "far"] (defScope s_gone) := ⟨rfl, rfl, rfl, by decide +kernel, rfl, by decide +kernel, by decide +kernel⟩
theorem t_gone : fnT B_gone (defScope s_gone) = true := by decide +kernel
noncomputable def d_gone : En → Sto → SR :=
    (sSeq (sSet 4 (eOp2 ixD (eK w_STEPS) (eGix y_WAYS (aCons (eVar 2) aNil))))
    (sRet (eTup (aCons (eOp2 addD (eVar 0) (eOp2 mulD (eVar 3) (eOp2 ixD (eVar 4) (eK (.int 0))))) (aCons (eOp2 addD (eVar 1) (eOp2 mulD (eVar 3) (eOp2 ixD (eVar 4) (eK (.int 1))))) aNil)))))
noncomputable def m_gone : List Wv → Sto → Rs Wv := mkF 4 5 d_gone
theorem b_gone {M : Md} {X : Cx} (T : Hs M)  (c : Cxt M X B_gone 0) : DB X (defBody s_gone) d_gone :=
    (db_cons (ds_set c 4 rfl (by decide) (de_ix c.roomH (q_STEPS T c 0 rfl) (ix_WAYS T c 1 rfl (da_cons (de_var c 2 rfl (by decide)) da_nil)) (fun _ _ => rfl)))
    (db_one (ds_ret (de_tup (da_cons (de_bin o_add (de_var c 0 rfl (by decide)) (de_bin o_mul (de_var c 3 rfl (by decide)) (de_ix c.roomH (de_var c 4 rfl (by decide)) de_int (fun _ _ => rfl)))) (da_cons (de_bin o_add (de_var c 1 rfl (by decide)) (de_bin o_mul (de_var c 3 rfl (by decide)) (de_ix c.roomH (de_var c 4 rfl (by decide)) de_int (fun _ _ => rfl)))) da_nil))))))
theorem h_gone {M : Md} (T : Hs M)  (F : TopFn M "gone" s_gone ["x", "y", "way", "far"]) : Has M false 1 "gone" ["x", "y", "way", "far"] m_gone := has_of F sc_gone t_gone rfl rfl (fun X c => b_gone T  c)
abbrev s_leg_points : Stmt := topS 26
def B_leg_points : Tb := ⟨["path", "found", "way", "long"], [0, 1, 2, 3], [0, 1, 2, 3], [0, 1, 2, 3], ["gone"], [], true, false, none⟩
theorem sc_leg_points : FnScope B_leg_points.N ["path"] (defScope s_leg_points) := ⟨rfl, rfl, rfl, by decide +kernel, rfl, by decide +kernel, by decide +kernel⟩
theorem t_leg_points : fnT B_leg_points (defScope s_leg_points) = true := by decide +kernel
noncomputable def d_leg_points_l1 : En → Sto → SR :=
    (sExp (eM appW (eVar 1) (aCons (eCall m_gone (aCons (eOp2 ixD (eOp2 ixD (eVar 1) (eOp1 negD (eK (.int 1)))) (eK (.int 0))) (aCons (eOp2 ixD (eOp2 ixD (eVar 1) (eOp1 negD (eK (.int 1)))) (eK (.int 1))) (aCons (eVar 2) (aCons (eVar 3) aNil))))) aNil)))
noncomputable def d_leg_points : En → Sto → SR :=
    (sSeq (sSet 1 (eNewL (aCons (eSlice (eVar 0) pNo (pSome (eK (.int 2)))) aNil)))
    (sSeq (sFor (cSeq (eOp2 ixD (eVar 0) (eK (.int 2)))) (gTp (gCn (gN 2) (gCn (gN 3) gNl))) d_leg_points_l1)
    (sRetF (eVar 1))))
noncomputable def m_leg_points : List Wv → Sto → Rs Wv := mkF 1 4 d_leg_points
theorem b_leg_points {M : Md} {X : Cx} (T : Hs M) (h_gone : Has M false 1 "gone" ["x", "y", "way", "far"] m_gone) (c : Cxt M X B_leg_points 1) : DB X (defBody s_leg_points) d_leg_points :=
    (db_cons (ds_set c 1 rfl (by decide) (de_newl (da_cons (de_slice (de_var c 0 rfl (by decide)) do_no (do_some de_int)) da_nil)))
    (db_cons (ds_for c [2, 3] (di_seq (de_ix c.roomH (de_var c 0 rfl (by decide)) de_int (fun _ _ => rfl))) (dg_tup c (dgs_cons (dg_name c [2, 3] 2 rfl (by decide) (by decide)) (dgs_cons (dg_name c [2, 3] 3 rfl (by decide) (by decide)) (dgs_nil [2, 3]))) (asks_cons (asks_cons asks_nil)))
    (db_one (ds_exp (de_append (de_var c 1 rfl (by decide)) (da_cons (de_fn c (h_gone.up (by decide)) 0 rfl (da_cons (de_ix c.roomH (de_ix c.roomH (de_var c 1 rfl (by decide)) (de_un o_neg de_int) (fun _ _ => rfl)) de_int (fun _ _ => rfl)) (da_cons (de_ix c.roomH (de_ix c.roomH (de_var c 1 rfl (by decide)) (de_un o_neg de_int) (fun _ _ => rfl)) de_int (fun _ _ => rfl)) (da_cons (de_var c 2 rfl (by decide)) (da_cons (de_var c 3 rfl (by decide)) da_nil))))) da_nil)))))
    (db_one (ds_retf (de_var c 1 rfl (by decide))))))
theorem h_leg_points {M : Md} (T : Hs M) (h_gone : Has M false 1 "gone" ["x", "y", "way", "far"] m_gone) (F : TopFn M "leg_points" s_leg_points ["path"]) : Has M false 2 "leg_points" ["path"] m_leg_points := has_of F sc_leg_points t_leg_points rfl rfl (fun X c => b_leg_points T h_gone c)
abbrev s_strips_by : Stmt := topS 28
def B_strips_by : Tb := ⟨["path", "width", "turns", "points", "found", "leg", "way", "long", "ahead", "more", "here", "x", "y"], [0, 1, 2, 3, 4, 5, 6, 7, 8, 9, 10, 11, 12], [0, 1, 2, 3, 4, 5, 6, 7, 8, 9, 10, 11, 12], [0, 1, 2, 3, 4, 5, 6, 7, 8, 9, 10, 11, 12], ["bend_sides", "leg_points", "enumerate", "len", "NoStrip", "gone"], [], true, false, none⟩
theorem sc_strips_by : FnScope B_strips_by.N ["path", "width"] (defScope s_strips_by) := ⟨rfl, rfl, rfl, by decide +kernel, rfl, by decide +kernel, by decide +kernel⟩
theorem t_strips_by : fnT B_strips_by (defScope s_strips_by) = true := by decide +kernel
noncomputable def d_strips_by_l1 : En → Sto → SR :=
    (sSeq (sSet 8 (eIf (tAnd2 (tBl (eOp2 gtD (eVar 5) (eK (.int 0)))) (tBl (eOp2 eqD (eOp2 ixD (eVar 2) (eOp2 subD (eVar 5) (eK (.int 1)))) (eK (.str "left"))))) (eVar 1) (eK (.int 0))))
    (sSeq (sSet 9 (eIf (tAnd2 (tBl (eOp2 ltD (eVar 5) (eOpN lenF (aCons (eVar 2) aNil)))) (tBl (eOp2 eqD (eOp2 ixD (eVar 2) (eVar 5)) (eK (.str "right"))))) (eVar 1) (eK (.int 0))))
    (sSeq (sSet 10 (eOp2 subD (eOp2 addD (eVar 7) (eVar 9)) (eVar 8)))
    (sSeq (sIf (tBl (eOp2 ltD (eVar 10) (eK (.int 1)))) sNo sNil)
    (sSeq (sAsg (gTp (gCn (gN 11) (gCn (gN 12) gNl))) (eCall m_gone (aCons (eOp2 ixD (eOp2 ixD (eVar 3) (eVar 5)) (eK (.int 0))) (aCons (eOp2 ixD (eOp2 ixD (eVar 3) (eVar 5)) (eK (.int 1))) (aCons (eVar 6) (aCons (eVar 8) aNil))))))
    (sExp (eM appW (eVar 4) (aCons (eTup (aCons (eVar 11) (aCons (eVar 12) (aCons (eVar 6) (aCons (eVar 10) aNil))))) aNil))))))))
noncomputable def d_strips_by : En → Sto → SR :=
    (sSeq (sSet 2 (eCall m_bend_sides (aCons (eVar 0) aNil)))
    (sSeq (sSet 3 (eCall m_leg_points (aCons (eVar 0) aNil)))
    (sSeq (sSet 4 (eNewL aNil))
    (sSeq (sFor (cEnum (aCons (eOp2 ixD (eVar 0) (eK (.int 2))) aNil)) (gTp (gCn (gN 5) (gCn (gTp (gCn (gN 6) (gCn (gN 7) gNl))) gNl))) d_strips_by_l1)
    (sRetF (eVar 4))))))
noncomputable def m_strips_by : List Wv → Sto → Rs Wv := mkF 2 13 d_strips_by
theorem b_strips_by {M : Md} {X : Cx} (T : Hs M) (h_bend_sides : Has M false 2 "bend_sides" ["path"] m_bend_sides) (h_gone : Has M false 1 "gone" ["x", "y", "way", "far"] m_gone) (h_leg_points : Has M false 2 "leg_points" ["path"] m_leg_points) (c : Cxt M X B_strips_by 2) : DB X (defBody s_strips_by) d_strips_by :=
    (db_cons (ds_set c 2 rfl (by decide) (de_fn c (h_bend_sides.up (by decide)) 0 rfl (da_cons (de_var c 0 rfl (by decide)) da_nil)))
    (db_cons (ds_set c 3 rfl (by decide) (de_fn c (h_leg_points.up (by decide)) 1 rfl (da_cons (de_var c 0 rfl (by decide)) da_nil)))
    (db_cons (ds_set c 4 rfl (by decide) (de_newl da_nil))
    (db_cons (ds_for c [5, 6, 7] (di_enum c 2 rfl T.z_enumerate (da_cons (de_ix c.roomH (de_var c 0 rfl (by decide)) de_int (fun _ _ => rfl)) da_nil)) (dg_tup c (dgs_cons (dg_name c [5, 6, 7] 5 rfl (by decide) (by decide)) (dgs_cons (dg_tup c (dgs_cons (dg_name c [5, 6, 7] 6 rfl (by decide) (by decide)) (dgs_cons (dg_name c [5, 6, 7] 7 rfl (by decide) (by decide)) (dgs_nil [5, 6, 7]))) (asks_cons (asks_cons asks_nil))) (dgs_nil [5, 6, 7]))) (asks_cons (asks_cons asks_nil)))
    (db_cons (ds_set c 8 rfl (by decide) (de_if (DW.dt (dw_and (dt_cmp (o_gt c.roomH) (de_var c 5 rfl (by decide)) de_int (nomark _)) (dw_and1 (dt_cmp (o_eq c.roomH) (de_ix c.roomH (de_var c 2 rfl (by decide)) (de_bin o_sub (de_var c 5 rfl (by decide)) de_int) (fun _ _ => rfl)) de_str (nomark _))))) (de_var c 1 rfl (by decide)) de_int))
    (db_cons (ds_set c 9 rfl (by decide) (de_if (DW.dt (dw_and (dt_cmp (o_lt c.roomH) (de_var c 5 rfl (by decide)) (de_callB (id := "len") c c_len 3 rfl T.z_len (by decide +kernel) (da_cons (de_var c 2 rfl (by decide)) da_nil)) (nomark _)) (dw_and1 (dt_cmp (o_eq c.roomH) (de_ix c.roomH (de_var c 2 rfl (by decide)) (de_var c 5 rfl (by decide)) (fun _ _ => rfl)) de_str (nomark _))))) (de_var c 1 rfl (by decide)) de_int))
    (db_cons (ds_set c 10 rfl (by decide) (de_bin o_sub (de_bin o_add (de_var c 7 rfl (by decide)) (de_var c 9 rfl (by decide))) (de_var c 8 rfl (by decide))))
    (db_cons (ds_if (dt_cmp (o_lt c.roomH) (de_var c 10 rfl (by decide)) de_int (nomark _)) (db_one ds_no) db_nil)
    (db_cons (ds_asg (de_fn c (h_gone.up (by decide)) 5 rfl (da_cons (de_ix c.roomH (de_ix c.roomH (de_var c 3 rfl (by decide)) (de_var c 5 rfl (by decide)) (fun _ _ => rfl)) de_int (fun _ _ => rfl)) (da_cons (de_ix c.roomH (de_ix c.roomH (de_var c 3 rfl (by decide)) (de_var c 5 rfl (by decide)) (fun _ _ => rfl)) de_int (fun _ _ => rfl)) (da_cons (de_var c 6 rfl (by decide)) (da_cons (de_var c 8 rfl (by decide)) da_nil))))) (dg_tup c (dgs_cons (dg_name c [11, 12] 11 rfl (by decide) (by decide)) (dgs_cons (dg_name c [11, 12] 12 rfl (by decide) (by decide)) (dgs_nil [11, 12]))) (asks_cons (asks_cons asks_nil))))
    (db_one (ds_exp (de_append (de_var c 4 rfl (by decide)) (da_cons (de_tup (da_cons (de_var c 11 rfl (by decide)) (da_cons (de_var c 12 rfl (by decide)) (da_cons (de_var c 6 rfl (by decide)) (da_cons (de_var c 10 rfl (by decide)) da_nil))))) da_nil))))))))))
    (db_one (ds_retf (de_var c 4 rfl (by decide))))))))
theorem h_strips_by {M : Md} (T : Hs M) (h_bend_sides : Has M false 2 "bend_sides" ["path"] m_bend_sides) (h_gone : Has M false 1 "gone" ["x", "y", "way", "far"] m_gone) (h_leg_points : Has M false 2 "leg_points" ["path"] m_leg_points) (F : TopFn M "strips_by" s_strips_by ["path", "width"]) : Has M false 3 "strips_by" ["path", "width"] m_strips_by := has_of F sc_strips_by t_strips_by rfl rfl (fun X c => b_strips_by T h_bend_sides h_gone h_leg_points c)
abbrev s_is_whole : Stmt := topS 18
def B_is_whole : Tb := ⟨["thing"], [0], [0], [0], ["isinstance", "int", "bool"], [], true, false, none⟩
theorem sc_is_whole : FnScope B_is_whole.N ["thing"] (defScope s_is_whole) := ⟨rfl, rfl, rfl, by decide +kernel, rfl, by decide +kernel, by decide +kernel⟩
theorem t_is_whole : fnT B_is_whole (defScope s_is_whole) = true := by decide +kernel
noncomputable def d_is_whole : En → Sto → SR :=
    (sRet (eAnd2 (eOp1 (isaD "int") (eVar 0)) (eNot1 (eOp1 (isaD "bool") (eVar 0)))))
noncomputable def m_is_whole : List Wv → Sto → Rs Wv := mkF 1 1 d_is_whole
theorem b_is_whole {M : Md} {X : Cx} (T : Hs M)  (c : Cxt M X B_is_whole 0) : DB X (defBody s_is_whole) d_is_whole :=
    (db_one (ds_ret (de_and (de_isa c 0 1 rfl T.z_isinstance rfl T.z_int (by decide +kernel) (de_var c 0 rfl (by decide))) (de_one (de_not (de_isa c 0 2 rfl T.z_isinstance rfl T.z_bool (by decide +kernel) (de_var c 0 rfl (by decide))))))))
theorem h_is_whole {M : Md} (T : Hs M)  (F : TopFn M "is_whole" s_is_whole ["thing"]) : Has M false 1 "is_whole" ["thing"] m_is_whole := has_of F sc_is_whole t_is_whole rfl rfl (fun X c => b_is_whole T  c)
abbrev s_is_from_to : Stmt := topS 19
def B_is_from_to : Tb := ⟨["thing", "least", "most"], [0, 1, 2], [0, 1, 2], [0, 1, 2], ["is_whole"], [], true, false, none⟩
theorem sc_is_from_to : FnScope B_is_from_to.N ["thing", "least", "most"] (defScope s_is_from_to) := ⟨rfl, rfl, rfl, by decide +kernel, rfl, by decide +kernel, by decide +kernel⟩
theorem t_is_from_to : fnT B_is_from_to (defScope s_is_from_to) = true := by decide +kernel
noncomputable def d_is_from_to : En → Sto → SR :=
    (sRet (eAnd2 (eCall m_is_whole (aCons (eVar 0) aNil)) (eChain leD leD (eVar 1) (eVar 0) (eVar 2))))
noncomputable def m_is_from_to : List Wv → Sto → Rs Wv := mkF 3 3 d_is_from_to
theorem b_is_from_to {M : Md} {X : Cx} (T : Hs M) (h_is_whole : Has M false 1 "is_whole" ["thing"] m_is_whole) (c : Cxt M X B_is_from_to 1) : DB X (defBody s_is_from_to) d_is_from_to :=
    (db_one (ds_ret (de_and (de_fn c (h_is_whole.up (by decide)) 0 rfl (da_cons (de_var c 0 rfl (by decide)) da_nil)) (de_one (de_chain (o_le c.roomH) (o_le c.roomH) (de_var c 1 rfl (by decide)) (de_var c 0 rfl (by decide)) (de_var c 2 rfl (by decide)))))))
theorem h_is_from_to {M : Md} (T : Hs M) (h_is_whole : Has M false 1 "is_whole" ["thing"] m_is_whole) (F : TopFn M "is_from_to" s_is_from_to ["thing", "least", "most"]) : Has M false 2 "is_from_to" ["thing", "least", "most"] m_is_from_to := has_of F sc_is_from_to t_is_from_to rfl rfl (fun X c => b_is_from_to T h_is_whole c)
abbrev s_is_leg : Stmt := topS 20
def B_is_leg : Tb := ⟨["thing"], [0], [0], [0], ["isinstance", "tuple", "len", "str", "WAYS", "is_from_to", "MOST_LONG"], [], true, false, none⟩
theorem sc_is_leg : FnScope B_is_leg.N ["thing"] (defScope s_is_leg) := ⟨rfl, rfl, rfl, by decide +kernel, rfl, by decide +kernel, by decide +kernel⟩
theorem t_is_leg : fnT B_is_leg (defScope s_is_leg) = true := by decide +kernel
noncomputable def d_is_leg : En → Sto → SR :=
    (sSeq (sIf (tOr2 (tNot1 (tTru (eOp1 (isaD "tuple") (eVar 0)))) (tOr2 (tBl (eOp2 neD (eOpN lenF (aCons (eVar 0) aNil)) (eK (.int 2)))) (tOr2 (tNot1 (tTru (eOp1 (isaD "str") (eOp2 ixD (eVar 0) (eK (.int 0)))))) (tBl (eOp2 niD (eOp2 ixD (eVar 0) (eK (.int 0))) (eK w_WAYS)))))) (sRet (eK (.bool false))) sNil)
    (sRet (eCall m_is_from_to (aCons (eOp2 ixD (eVar 0) (eK (.int 1))) (aCons (eK (.int 1)) (aCons (eK w_MOST_LONG) aNil))))))
noncomputable def m_is_leg : List Wv → Sto → Rs Wv := mkF 1 1 d_is_leg
theorem b_is_leg {M : Md} {X : Cx} (T : Hs M) (h_is_from_to : Has M false 2 "is_from_to" ["thing", "least", "most"] m_is_from_to) (c : Cxt M X B_is_leg 2) : DB X (defBody s_is_leg) d_is_leg :=
    (db_cons (ds_if (DW.dt (dw_or (dt_not (dt_val (de_isa c 0 1 rfl T.z_isinstance rfl T.z_tuple (by decide +kernel) (de_var c 0 rfl (by decide))))) (dw_or (dt_cmp (o_ne c.roomH) (de_callB (id := "len") c c_len 2 rfl T.z_len (by decide +kernel) (da_cons (de_var c 0 rfl (by decide)) da_nil)) de_int (nomark _)) (dw_or (dt_not (dt_val (de_isa c 0 3 rfl T.z_isinstance rfl T.z_str (by decide +kernel) (de_ix c.roomH (de_var c 0 rfl (by decide)) de_int (fun _ _ => rfl))))) (dw_or1 (dt_cmp (o_ni c.roomH) (de_ix c.roomH (de_var c 0 rfl (by decide)) de_int (fun _ _ => rfl)) (q_WAYS T c 4 rfl) rfl)))))) (db_one (ds_ret de_bl)) db_nil)
    (db_one (ds_ret (de_fn c (h_is_from_to.up (by decide)) 5 rfl (da_cons (de_ix c.roomH (de_var c 0 rfl (by decide)) de_int (fun _ _ => rfl)) (da_cons de_int (da_cons (q_MOST_LONG T c 6 rfl) da_nil)))))))
theorem h_is_leg {M : Md} (T : Hs M) (h_is_from_to : Has M false 2 "is_from_to" ["thing", "least", "most"] m_is_from_to) (F : TopFn M "is_leg" s_is_leg ["thing"]) : Has M false 3 "is_leg" ["thing"] m_is_leg := has_of F sc_is_leg t_is_leg rfl rfl (fun X c => b_is_leg T h_is_from_to c)
abbrev s_is_path : Stmt := topS 22
def B_is_path : Tb := ⟨["thing", ".0", "one", "other", "leg"], [0], [0], [0], ["isinstance", "tuple", "len", "is_from_to", "MOST_FAR", "MOST_LEGS", "all", "zip"], [], true, false, none⟩
theorem sc_is_path : FnScope B_is_path.N ["thing"] (defScope s_is_path) := ⟨rfl, rfl, rfl, by decide +kernel, rfl, by decide +kernel, by decide +kernel⟩
theorem t_is_path : fnT B_is_path (defScope s_is_path) = true := by decide +kernel
noncomputable def d_is_path : En → Sto → SR :=
    (sSeq (sIf (tOr2 (tNot1 (tTru (eOp1 (isaD "tuple") (eVar 0)))) (tOr2 (tBl (eOp2 neD (eOpN lenF (aCons (eVar 0) aNil)) (eK (.int 3)))) (tNot1 (tTru (eOp1 (isaD "tuple") (eOp2 ixD (eVar 0) (eK (.int 2)))))))) (sRet (eK (.bool false))) sNil)
    (sSeq (sIf (tOr2 (tNot1 (tTru (eCall m_is_from_to (aCons (eOp2 ixD (eVar 0) (eK (.int 0))) (aCons (eOp2 subD (eK (.int 0)) (eK w_MOST_FAR)) (aCons (eK w_MOST_FAR) aNil)))))) (tNot1 (tTru (eCall m_is_from_to (aCons (eOp2 ixD (eVar 0) (eK (.int 1))) (aCons (eOp2 subD (eK (.int 0)) (eK w_MOST_FAR)) (aCons (eK w_MOST_FAR) aNil))))))) (sRet (eK (.bool false))) sNil)
    (sSeq (sIf (tOr2 (tNot1 (tBl (eChain leD leD (eK (.int 1)) (eOpN lenF (aCons (eOp2 ixD (eVar 0) (eK (.int 2))) aNil)) (eK w_MOST_LEGS)))) (tNot1 (tTru (eOpN allF (aCons (eLc (cSeq (eOp2 ixD (eVar 0) (eK (.int 2)))) (gN 4) tYs (eCall m_is_leg (aCons (eVar 4) aNil)) [1, 4]) aNil))))) (sRet (eK (.bool false))) sNil)
    (sRet (eOpN allF (aCons (eLc (cZip2 (aCons (eOp2 ixD (eVar 0) (eK (.int 2))) (aCons (eSlice (eOp2 ixD (eVar 0) (eK (.int 2))) (pSome (eK (.int 1))) pNo) aNil))) (gTp (gCn (gN 2) (gCn (gN 3) gNl))) tYs (eOp2 inD (eCall m_quarter (aCons (eOp2 ixD (eVar 2) (eK (.int 0))) (aCons (eOp2 ixD (eVar 3) (eK (.int 0))) aNil))) (eTup (aCons (eK (.int 1)) (aCons (eK (.int 3)) aNil)))) [1, 2, 3]) aNil))))))
noncomputable def m_is_path : List Wv → Sto → Rs Wv := mkF 1 5 d_is_path
theorem b_is_path {M : Md} {X : Cx} (T : Hs M) (h_is_from_to : Has M false 2 "is_from_to" ["thing", "least", "most"] m_is_from_to) (h_is_leg : Has M false 3 "is_leg" ["thing"] m_is_leg) (h_quarter : Has M false 1 "quarter" ["one", "other"] m_quarter) (c : Cxt M X B_is_path 3) : DB X (defBody s_is_path) d_is_path :=
    (db_cons (ds_if (DW.dt (dw_or (dt_not (dt_val (de_isa c 0 1 rfl T.z_isinstance rfl T.z_tuple (by decide +kernel) (de_var c 0 rfl (by decide))))) (dw_or (dt_cmp (o_ne c.roomH) (de_callB (id := "len") c c_len 2 rfl T.z_len (by decide +kernel) (da_cons (de_var c 0 rfl (by decide)) da_nil)) de_int (nomark _)) (dw_or1 (dt_not (dt_val (de_isa c 0 1 rfl T.z_isinstance rfl T.z_tuple (by decide +kernel) (de_ix c.roomH (de_var c 0 rfl (by decide)) de_int (fun _ _ => rfl))))))))) (db_one (ds_ret de_bl)) db_nil)
    (db_cons (ds_if (DW.dt (dw_or (dt_not (dt_val (de_fn c (h_is_from_to.up (by decide)) 3 rfl (da_cons (de_ix c.roomH (de_var c 0 rfl (by decide)) de_int (fun _ _ => rfl)) (da_cons (de_bin o_sub de_int (q_MOST_FAR T c 4 rfl)) (da_cons (q_MOST_FAR T c 4 rfl) da_nil)))))) (dw_or1 (dt_not (dt_val (de_fn c (h_is_from_to.up (by decide)) 3 rfl (da_cons (de_ix c.roomH (de_var c 0 rfl (by decide)) de_int (fun _ _ => rfl)) (da_cons (de_bin o_sub de_int (q_MOST_FAR T c 4 rfl)) (da_cons (q_MOST_FAR T c 4 rfl) da_nil))))))))) (db_one (ds_ret de_bl)) db_nil)
    (db_cons (ds_if (DW.dt (dw_or (dt_not (dt_chain (o_le c.roomH) (o_le c.roomH) de_int (de_callB (id := "len") c c_len 2 rfl T.z_len (by decide +kernel) (da_cons (de_ix c.roomH (de_var c 0 rfl (by decide)) de_int (fun _ _ => rfl)) da_nil)) (q_MOST_LEGS T c 5 rfl))) (dw_or1 (dt_not (dt_val (de_callB (id := "all") c (c_all c.calm) 6 rfl T.z_all (by decide +kernel) (da_cons (de_lc c (lc_ok c [(".0", 1), ("leg", 4)] [1, 4] [1, 4] ["is_leg"] [] (by decide +kernel) (di_seq (de_ix c.roomH (de_var c 0 rfl (by decide)) de_int (fun _ _ => rfl))) (by decide) (fun _ c3 => (dg_name c3 [1, 4] 4 rfl (by decide) (by decide))) (fun _ c3 => dts_nil) (fun _ c3 => (de_fn c3 (h_is_leg.up (by decide)) 0 rfl (da_cons (de_var c3 4 rfl (by decide)) da_nil))))) da_nil))))))) (db_one (ds_ret de_bl)) db_nil)
    (db_one (ds_ret (de_callB (id := "all") c (c_all c.calm) 6 rfl T.z_all (by decide +kernel) (da_cons (de_lc c (lc_ok c [(".0", 1), ("one", 2), ("other", 3)] [1, 2, 3] [1, 2, 3] ["quarter"] [] (by decide +kernel) (di_zip2 c 7 rfl T.z_zip (da_cons (de_ix c.roomH (de_var c 0 rfl (by decide)) de_int (fun _ _ => rfl)) (da_cons (de_slice (de_ix c.roomH (de_var c 0 rfl (by decide)) de_int (fun _ _ => rfl)) (do_some de_int) do_no) da_nil))) (by decide) (fun _ c4 => (dg_tup c4 (dgs_cons (dg_name c4 [1, 2, 3] 2 rfl (by decide) (by decide)) (dgs_cons (dg_name c4 [1, 2, 3] 3 rfl (by decide) (by decide)) (dgs_nil [1, 2, 3]))) (asks_cons (asks_cons asks_nil)))) (fun _ c4 => dts_nil) (fun _ c4 => (de_cmp (o_in c4.roomH) (de_fn c4 (h_quarter.up (by decide)) 0 rfl (da_cons (de_ix c4.roomH (de_var c4 2 rfl (by decide)) de_int (fun _ _ => rfl)) (da_cons (de_ix c4.roomH (de_var c4 3 rfl (by decide)) de_int (fun _ _ => rfl)) da_nil))) (de_tup (da_cons de_int (da_cons de_int da_nil))) rfl)))) da_nil)))))))
theorem h_is_path {M : Md} (T : Hs M) (h_is_from_to : Has M false 2 "is_from_to" ["thing", "least", "most"] m_is_from_to) (h_is_leg : Has M false 3 "is_leg" ["thing"] m_is_leg) (h_quarter : Has M false 1 "quarter" ["one", "other"] m_quarter) (F : TopFn M "is_path" s_is_path ["thing"]) : Has M false 4 "is_path" ["thing"] m_is_path := has_of F sc_is_path t_is_path rfl rfl (fun X c => b_is_path T h_is_from_to h_is_leg h_quarter c)
abbrev s_strips_or_none : Stmt := topS 50
def B_strips_or_none : Tb := ⟨["thing"], [0], [0], [0], ["is_path", "is_from_to", "MOST_WIDTH", "strips_by", "NoStrip"], [], true, false, none⟩
theorem sc_strips_or_none : FnScope B_strips_or_none.N ["thing"] (defScope s_strips_or_none) := ⟨rfl, rfl, rfl, by decide +kernel, rfl, by decide +kernel, by decide +kernel⟩
theorem t_strips_or_none : fnT B_strips_or_none (defScope s_strips_or_none) = true := by decide +kernel
noncomputable def d_strips_or_none : En → Sto → SR :=
    (sSeq (sIf (tOr2 (tNot1 (tTru (eCall m_is_path (aCons (eOp2 ixD (eVar 0) (eK (.int 0))) aNil)))) (tNot1 (tTru (eCall m_is_from_to (aCons (eOp2 ixD (eVar 0) (eK (.int 1))) (aCons (eK (.int 1)) (aCons (eK w_MOST_WIDTH) aNil))))))) (sRet (eK .none)) sNil)
    (sTryN (sRet (eCall m_strips_by (aCons (eOp2 ixD (eVar 0) (eK (.int 0))) (aCons (eOp2 ixD (eVar 0) (eK (.int 1))) aNil))))))
noncomputable def m_strips_or_none : List Wv → Sto → Rs Wv := mkF 1 1 d_strips_or_none
theorem b_strips_or_none {M : Md} {X : Cx} (T : Hs M) (h_is_from_to : Has M false 2 "is_from_to" ["thing", "least", "most"] m_is_from_to) (h_is_path : Has M false 4 "is_path" ["thing"] m_is_path) (h_strips_by : Has M false 3 "strips_by" ["path", "width"] m_strips_by) (c : Cxt M X B_strips_or_none 4) : DB X (defBody s_strips_or_none) d_strips_or_none :=
    (db_cons (ds_if (DW.dt (dw_or (dt_not (dt_val (de_fn c (h_is_path.up (by decide)) 0 rfl (da_cons (de_ix c.roomH (de_var c 0 rfl (by decide)) de_int (fun _ _ => rfl)) da_nil)))) (dw_or1 (dt_not (dt_val (de_fn c (h_is_from_to.up (by decide)) 1 rfl (da_cons (de_ix c.roomH (de_var c 0 rfl (by decide)) de_int (fun _ _ => rfl)) (da_cons de_int (da_cons (q_MOST_WIDTH T c 2 rfl) da_nil))))))))) (db_one (ds_ret de_non)) db_nil)
    (db_one (ds_tryN c (fun X c => (db_one (ds_ret (de_fn c (h_strips_by.up (by decide)) 3 rfl (da_cons (de_ix c.roomH (de_var c 0 rfl (by decide)) de_int (fun _ _ => rfl)) (da_cons (de_ix c.roomH (de_var c 0 rfl (by decide)) de_int (fun _ _ => rfl)) da_nil)))))))))
theorem h_strips_or_none {M : Md} (T : Hs M) (h_is_from_to : Has M false 2 "is_from_to" ["thing", "least", "most"] m_is_from_to) (h_is_path : Has M false 4 "is_path" ["thing"] m_is_path) (h_strips_by : Has M false 3 "strips_by" ["path", "width"] m_strips_by) (F : TopFn M "strips_or_none" s_strips_or_none ["thing"]) : Has M false 5 "strips_or_none" ["thing"] m_strips_or_none := has_of F sc_strips_or_none t_strips_or_none rfl rfl (fun X c => b_strips_or_none T h_is_from_to h_is_path h_strips_by c)
abbrev s_are_stones : Stmt := topS 51
def B_are_stones : Tb := ⟨["thing", "long", "end", "one"], [0, 1, 2, 3], [0, 1, 2, 3], [0, 1, 2, 3], ["isinstance", "tuple", "len", "MOST_STONES", "is_from_to", "MOST_STONE"], [], true, false, none⟩
theorem sc_are_stones : FnScope B_are_stones.N ["thing", "long"] (defScope s_are_stones) := ⟨rfl, rfl, rfl, by decide +kernel, rfl, by decide +kernel, by decide +kernel⟩
theorem t_are_stones : fnT B_are_stones (defScope s_are_stones) = true := by decide +kernel
noncomputable def d_are_stones_l1 : En → Sto → SR :=
    (sWp [3] (sSeq (sIf (tOr2 (tNot1 (tTru (eOp1 (isaD "tuple") (eVar 3)))) (tOr2 (tBl (eOp2 neD (eOpN lenF (aCons (eVar 3) aNil)) (eK (.int 2)))) (tNot1 (tTru (eCall m_is_from_to (aCons (eOp2 ixD (eVar 3) (eK (.int 1))) (aCons (eK (.int 1)) (aCons (eK w_MOST_STONE) aNil)))))))) (sRet (eK (.bool false))) sNil)
    (sSeq (sIf (tNot1 (tTru (eCall m_is_from_to (aCons (eOp2 ixD (eVar 3) (eK (.int 0))) (aCons (eVar 2) (aCons (eOp2 subD (eVar 1) (eOp2 ixD (eVar 3) (eK (.int 1)))) aNil)))))) (sRet (eK (.bool false))) sNil)
    (sSet 2 (eOp2 addD (eOp2 ixD (eVar 3) (eK (.int 0))) (eOp2 ixD (eVar 3) (eK (.int 1))))))))
noncomputable def d_are_stones : En → Sto → SR :=
    (sSeq (sIf (tOr2 (tNot1 (tTru (eOp1 (isaD "tuple") (eVar 0)))) (tNot1 (tBl (eChain leD leD (eK (.int 1)) (eOpN lenF (aCons (eVar 0) aNil)) (eK w_MOST_STONES))))) (sRet (eK (.bool false))) sNil)
    (sSeq (sSet 2 (eK (.int 0)))
    (sSeq (sFor (cSeq (eVar 0)) (gN 3) d_are_stones_l1)
    (sRet (eK (.bool true))))))
noncomputable def m_are_stones : List Wv → Sto → Rs Wv := mkF 2 4 d_are_stones
theorem b_are_stones {M : Md} {X : Cx} (T : Hs M) (h_is_from_to : Has M false 2 "is_from_to" ["thing", "least", "most"] m_is_from_to) (c : Cxt M X B_are_stones 2) : DB X (defBody s_are_stones) d_are_stones :=
    (db_cons (ds_if (DW.dt (dw_or (dt_not (dt_val (de_isa c 0 1 rfl T.z_isinstance rfl T.z_tuple (by decide +kernel) (de_var c 0 rfl (by decide))))) (dw_or1 (dt_not (dt_chain (o_le c.roomH) (o_le c.roomH) de_int (de_callB (id := "len") c c_len 2 rfl T.z_len (by decide +kernel) (da_cons (de_var c 0 rfl (by decide)) da_nil)) (q_MOST_STONES T c 3 rfl)))))) (db_one (ds_ret de_bl)) db_nil)
    (db_cons (ds_set c 2 rfl (by decide) de_int)
    (db_cons (ds_for c [3] (di_seq (de_var c 0 rfl (by decide))) (dg_name c [3] 3 rfl (by decide) (by decide))
    (db_wp [3] (db_cons (ds_if (DW.dt (dw_or (dt_not (dt_val (de_isa c 0 1 rfl T.z_isinstance rfl T.z_tuple (by decide +kernel) (de_var c 3 rfl (by decide))))) (dw_or (dt_cmp (o_ne c.roomH) (de_callB (id := "len") c c_len 2 rfl T.z_len (by decide +kernel) (da_cons (de_var c 3 rfl (by decide)) da_nil)) de_int (nomark _)) (dw_or1 (dt_not (dt_val (de_fn c (h_is_from_to.up (by decide)) 4 rfl (da_cons (de_ix c.roomH (de_var c 3 rfl (by decide)) de_int (fun _ _ => rfl)) (da_cons de_int (da_cons (q_MOST_STONE T c 5 rfl) da_nil)))))))))) (db_one (ds_ret de_bl)) db_nil)
    (db_cons (ds_if (dt_not (dt_val (de_fn c (h_is_from_to.up (by decide)) 4 rfl (da_cons (de_ix c.roomH (de_var c 3 rfl (by decide)) de_int (fun _ _ => rfl)) (da_cons (de_var c 2 rfl (by decide)) (da_cons (de_bin o_sub (de_var c 1 rfl (by decide)) (de_ix c.roomH (de_var c 3 rfl (by decide)) de_int (fun _ _ => rfl))) da_nil)))))) (db_one (ds_ret de_bl)) db_nil)
    (db_one (ds_set c 2 rfl (by decide) (de_bin o_add (de_ix c.roomH (de_var c 3 rfl (by decide)) de_int (fun _ _ => rfl)) (de_ix c.roomH (de_var c 3 rfl (by decide)) de_int (fun _ _ => rfl)))))))))
    (db_one (ds_ret de_bl)))))
theorem h_are_stones {M : Md} (T : Hs M) (h_is_from_to : Has M false 2 "is_from_to" ["thing", "least", "most"] m_is_from_to) (F : TopFn M "are_stones" s_are_stones ["thing", "long"]) : Has M false 3 "are_stones" ["thing", "long"] m_are_stones := has_of F sc_are_stones t_are_stones rfl rfl (fun X c => b_are_stones T h_is_from_to c)
abbrev s_is_row : Stmt := topS 52
def B_is_row : Tb := ⟨["thing", "some", ".0", "stones", "strip"], [0, 1], [0, 1], [0, 1], ["isinstance", "tuple", "len", "strips_or_none", "all", "zip"], [], true, false, none⟩
theorem sc_is_row : FnScope B_is_row.N ["thing"] (defScope s_is_row) := ⟨rfl, rfl, rfl, by decide +kernel, rfl, by decide +kernel, by decide +kernel⟩
theorem t_is_row : fnT B_is_row (defScope s_is_row) = true := by decide +kernel
noncomputable def d_is_row : En → Sto → SR :=
    (sSeq (sIf (tOr2 (tNot1 (tTru (eOp1 (isaD "tuple") (eVar 0)))) (tBl (eOp2 neD (eOpN lenF (aCons (eVar 0) aNil)) (eK (.int 3))))) (sRet (eK (.bool false))) sNil)
    (sSeq (sSet 1 (eCall m_strips_or_none (aCons (eVar 0) aNil)))
    (sSeq (sIf (tOr2 (tBl (eOp2 isND (eVar 1) (eK .none))) (tOr2 (tNot1 (tTru (eOp1 (isaD "tuple") (eOp2 ixD (eVar 0) (eK (.int 2)))))) (tBl (eOp2 neD (eOpN lenF (aCons (eOp2 ixD (eVar 0) (eK (.int 2))) aNil)) (eOpN lenF (aCons (eVar 1) aNil)))))) (sRet (eK (.bool false))) sNil)
    (sRet (eOpN allF (aCons (eLc (cZip2 (aCons (eOp2 ixD (eVar 0) (eK (.int 2))) (aCons (eVar 1) aNil))) (gTp (gCn (gN 3) (gCn (gN 4) gNl))) tYs (eCall m_are_stones (aCons (eVar 3) (aCons (eOp2 ixD (eVar 4) (eK (.int 3))) aNil))) [2, 3, 4]) aNil))))))
noncomputable def m_is_row : List Wv → Sto → Rs Wv := mkF 1 5 d_is_row
theorem b_is_row {M : Md} {X : Cx} (T : Hs M) (h_are_stones : Has M false 3 "are_stones" ["thing", "long"] m_are_stones) (h_strips_or_none : Has M false 5 "strips_or_none" ["thing"] m_strips_or_none) (c : Cxt M X B_is_row 5) : DB X (defBody s_is_row) d_is_row :=
    (db_cons (ds_if (DW.dt (dw_or (dt_not (dt_val (de_isa c 0 1 rfl T.z_isinstance rfl T.z_tuple (by decide +kernel) (de_var c 0 rfl (by decide))))) (dw_or1 (dt_cmp (o_ne c.roomH) (de_callB (id := "len") c c_len 2 rfl T.z_len (by decide +kernel) (da_cons (de_var c 0 rfl (by decide)) da_nil)) de_int (nomark _))))) (db_one (ds_ret de_bl)) db_nil)
    (db_cons (ds_set c 1 rfl (by decide) (de_fn c (h_strips_or_none.up (by decide)) 3 rfl (da_cons (de_var c 0 rfl (by decide)) da_nil)))
    (db_cons (ds_if (DW.dt (dw_or (dt_cmp o_isN (de_var c 1 rfl (by decide)) de_non (nomark _)) (dw_or (dt_not (dt_val (de_isa c 0 1 rfl T.z_isinstance rfl T.z_tuple (by decide +kernel) (de_ix c.roomH (de_var c 0 rfl (by decide)) de_int (fun _ _ => rfl))))) (dw_or1 (dt_cmp (o_ne c.roomH) (de_callB (id := "len") c c_len 2 rfl T.z_len (by decide +kernel) (da_cons (de_ix c.roomH (de_var c 0 rfl (by decide)) de_int (fun _ _ => rfl)) da_nil)) (de_callB (id := "len") c c_len 2 rfl T.z_len (by decide +kernel) (da_cons (de_var c 1 rfl (by decide)) da_nil)) (nomark _)))))) (db_one (ds_ret de_bl)) db_nil)
    (db_one (ds_ret (de_callB (id := "all") c (c_all c.calm) 4 rfl T.z_all (by decide +kernel) (da_cons (de_lc c (lc_ok c [(".0", 2), ("stones", 3), ("strip", 4)] [2, 3, 4] [2, 3, 4] ["are_stones"] [] (by decide +kernel) (di_zip2 c 5 rfl T.z_zip (da_cons (de_ix c.roomH (de_var c 0 rfl (by decide)) de_int (fun _ _ => rfl)) (da_cons (de_var c 1 rfl (by decide)) da_nil))) (by decide) (fun _ c5 => (dg_tup c5 (dgs_cons (dg_name c5 [2, 3, 4] 3 rfl (by decide) (by decide)) (dgs_cons (dg_name c5 [2, 3, 4] 4 rfl (by decide) (by decide)) (dgs_nil [2, 3, 4]))) (asks_cons (asks_cons asks_nil)))) (fun _ c5 => dts_nil) (fun _ c5 => (de_fn c5 (h_are_stones.up (by decide)) 0 rfl (da_cons (de_var c5 3 rfl (by decide)) (da_cons (de_ix c5.roomH (de_var c5 4 rfl (by decide)) de_int (fun _ _ => rfl)) da_nil)))))) da_nil)))))))
theorem h_is_row {M : Md} (T : Hs M) (h_are_stones : Has M false 3 "are_stones" ["thing", "long"] m_are_stones) (h_strips_or_none : Has M false 5 "strips_or_none" ["thing"] m_strips_or_none) (F : TopFn M "is_row" s_is_row ["thing"]) : Has M false 6 "is_row" ["thing"] m_is_row := has_of F sc_is_row t_is_row rfl rfl (fun X c => b_is_row T h_are_stones h_strips_or_none c)
abbrev s_need_row : Stmt := topS 53
def B_need_row : Tb := ⟨["row"], [0], [0], [0], ["is_row", "NoRow"], [], true, false, none⟩
theorem sc_need_row : FnScope B_need_row.N ["row"] (defScope s_need_row) := ⟨rfl, rfl, rfl, by decide +kernel, rfl, by decide +kernel, by decide +kernel⟩
theorem t_need_row : fnT B_need_row (defScope s_need_row) = true := by decide +kernel
noncomputable def d_need_row : En → Sto → SR :=
    (sIf (tNot1 (tTru (eCall m_is_row (aCons (eVar 0) aNil)))) sNo sNil)
noncomputable def m_need_row : List Wv → Sto → Rs Wv := mkF 1 1 d_need_row
theorem b_need_row {M : Md} {X : Cx} (T : Hs M) (h_is_row : Has M false 6 "is_row" ["thing"] m_is_row) (c : Cxt M X B_need_row 6) : DB X (defBody s_need_row) d_need_row :=
    (db_one (ds_if (dt_not (dt_val (de_fn c (h_is_row.up (by decide)) 0 rfl (da_cons (de_var c 0 rfl (by decide)) da_nil)))) (db_one ds_no) db_nil))
theorem h_need_row {M : Md} (T : Hs M) (h_is_row : Has M false 6 "is_row" ["thing"] m_is_row) (F : TopFn M "need_row" s_need_row ["row"]) : Has M false 7 "need_row" ["row"] m_need_row := has_of F sc_need_row t_need_row rfl rfl (fun X c => b_need_row T h_is_row c)
abbrev s_rectangle : Stmt := topS 30
def B_rectangle : Tb := ⟨["strip", "width", "start", "end", "x", "y", "way", "long"], [0, 1, 2, 3, 4, 5, 6, 7], [0, 1, 2, 3, 4, 5, 6, 7], [0, 1, 2, 3, 4, 5, 6, 7], [], [], true, false, none⟩
theorem sc_rectangle : FnScope B_rectangle.N ["strip", "width", "start", "end"] (defScope s_rectangle) := ⟨rfl, rfl, rfl, by decide +kernel, rfl, by decide +kernel, by decide +kernel⟩
theorem t_rectangle : fnT B_rectangle (defScope s_rectangle) = true := by decide +kernel
noncomputable def d_rectangle : En → Sto → SR :=
    (sSeq (sAsg (gTp (gCn (gN 4) (gCn (gN 5) (gCn (gN 6) (gCn (gN 7) gNl))))) (eVar 0))
    (sSeq (sIf (tBl (eOp2 eqD (eVar 6) (eK (.str "east")))) (sRet (eTup (aCons (eOp2 addD (eVar 4) (eVar 2)) (aCons (eVar 5) (aCons (eOp2 addD (eVar 4) (eVar 3)) (aCons (eOp2 addD (eVar 5) (eVar 1)) aNil)))))) sNil)
    (sSeq (sIf (tBl (eOp2 eqD (eVar 6) (eK (.str "north")))) (sRet (eTup (aCons (eOp2 subD (eVar 4) (eVar 1)) (aCons (eOp2 addD (eVar 5) (eVar 2)) (aCons (eVar 4) (aCons (eOp2 addD (eVar 5) (eVar 3)) aNil)))))) sNil)
    (sSeq (sIf (tBl (eOp2 eqD (eVar 6) (eK (.str "west")))) (sRet (eTup (aCons (eOp2 subD (eVar 4) (eVar 3)) (aCons (eOp2 subD (eVar 5) (eVar 1)) (aCons (eOp2 subD (eVar 4) (eVar 2)) (aCons (eVar 5) aNil)))))) sNil)
    (sRet (eTup (aCons (eVar 4) (aCons (eOp2 subD (eVar 5) (eVar 3)) (aCons (eOp2 addD (eVar 4) (eVar 1)) (aCons (eOp2 subD (eVar 5) (eVar 2)) aNil))))))))))
noncomputable def m_rectangle : List Wv → Sto → Rs Wv := mkF 4 8 d_rectangle
theorem b_rectangle {M : Md} {X : Cx} (T : Hs M)  (c : Cxt M X B_rectangle 0) : DB X (defBody s_rectangle) d_rectangle :=
    (db_cons (ds_asg (de_var c 0 rfl (by decide)) (dg_tup c (dgs_cons (dg_name c [4, 5, 6, 7] 4 rfl (by decide) (by decide)) (dgs_cons (dg_name c [4, 5, 6, 7] 5 rfl (by decide) (by decide)) (dgs_cons (dg_name c [4, 5, 6, 7] 6 rfl (by decide) (by decide)) (dgs_cons (dg_name c [4, 5, 6, 7] 7 rfl (by decide) (by decide)) (dgs_nil [4, 5, 6, 7]))))) (asks_cons (asks_cons (asks_cons (asks_cons asks_nil))))))
    (db_cons (ds_if (dt_cmp (o_eq c.roomH) (de_var c 6 rfl (by decide)) de_str (nomark _)) (db_one (ds_ret (de_tup (da_cons (de_bin o_add (de_var c 4 rfl (by decide)) (de_var c 2 rfl (by decide))) (da_cons (de_var c 5 rfl (by decide)) (da_cons (de_bin o_add (de_var c 4 rfl (by decide)) (de_var c 3 rfl (by decide))) (da_cons (de_bin o_add (de_var c 5 rfl (by decide)) (de_var c 1 rfl (by decide))) da_nil))))))) db_nil)
    (db_cons (ds_if (dt_cmp (o_eq c.roomH) (de_var c 6 rfl (by decide)) de_str (nomark _)) (db_one (ds_ret (de_tup (da_cons (de_bin o_sub (de_var c 4 rfl (by decide)) (de_var c 1 rfl (by decide))) (da_cons (de_bin o_add (de_var c 5 rfl (by decide)) (de_var c 2 rfl (by decide))) (da_cons (de_var c 4 rfl (by decide)) (da_cons (de_bin o_add (de_var c 5 rfl (by decide)) (de_var c 3 rfl (by decide))) da_nil))))))) db_nil)
    (db_cons (ds_if (dt_cmp (o_eq c.roomH) (de_var c 6 rfl (by decide)) de_str (nomark _)) (db_one (ds_ret (de_tup (da_cons (de_bin o_sub (de_var c 4 rfl (by decide)) (de_var c 3 rfl (by decide))) (da_cons (de_bin o_sub (de_var c 5 rfl (by decide)) (de_var c 1 rfl (by decide))) (da_cons (de_bin o_sub (de_var c 4 rfl (by decide)) (de_var c 2 rfl (by decide))) (da_cons (de_var c 5 rfl (by decide)) da_nil))))))) db_nil)
    (db_one (ds_ret (de_tup (da_cons (de_var c 4 rfl (by decide)) (da_cons (de_bin o_sub (de_var c 5 rfl (by decide)) (de_var c 3 rfl (by decide))) (da_cons (de_bin o_add (de_var c 4 rfl (by decide)) (de_var c 1 rfl (by decide))) (da_cons (de_bin o_sub (de_var c 5 rfl (by decide)) (de_var c 2 rfl (by decide))) da_nil)))))))))))
theorem h_rectangle {M : Md} (T : Hs M)  (F : TopFn M "rectangle" s_rectangle ["strip", "width", "start", "end"]) : Has M false 1 "rectangle" ["strip", "width", "start", "end"] m_rectangle := has_of F sc_rectangle t_rectangle rfl rfl (fun X c => b_rectangle T  c)
abbrev s_rectangles : Stmt := topS 57
def B_rectangles : Tb := ⟨["row", "found", "stones", "strip", ".0", "start", "long"], [0, 1, 2, 3], [0, 1, 2, 3], [1, 2], ["zip", "strips_by"], ["row", "strip"], true, false, none⟩
theorem sc_rectangles : FnScope B_rectangles.N ["row"] (defScope s_rectangles) := ⟨rfl, rfl, rfl, by decide +kernel, rfl, by decide +kernel, by decide +kernel⟩
theorem t_rectangles : fnT B_rectangles (defScope s_rectangles) = true := by decide +kernel
noncomputable def d_rectangles_l1 : En → Sto → SR :=
    (sWp [2, 3] (sExp (eM extW (eVar 1) (aCons (eLc (cSeq (eVar 2)) (gTp (gCn (gN 5) (gCn (gN 6) gNl))) tYs (eCall m_rectangle (aCons (eVar 3) (aCons (eOp2 ixD (eVar 0) (eK (.int 1))) (aCons (eVar 5) (aCons (eOp2 addD (eVar 5) (eVar 6)) aNil))))) [4, 5, 6]) aNil))))
noncomputable def d_rectangles : En → Sto → SR :=
    (sSeq (sSet 1 (eNewL aNil))
    (sSeq (sFor (cZip2 (aCons (eOp2 ixD (eVar 0) (eK (.int 2))) (aCons (eCall m_strips_by (aCons (eOp2 ixD (eVar 0) (eK (.int 0))) (aCons (eOp2 ixD (eVar 0) (eK (.int 1))) aNil))) aNil))) (gTp (gCn (gN 2) (gCn (gN 3) gNl))) d_rectangles_l1)
    (sRetF (eVar 1))))
noncomputable def m_rectangles : List Wv → Sto → Rs Wv := mkF 1 7 d_rectangles
theorem b_rectangles {M : Md} {X : Cx} (T : Hs M) (h_rectangle : Has M false 1 "rectangle" ["strip", "width", "start", "end"] m_rectangle) (h_strips_by : Has M false 3 "strips_by" ["path", "width"] m_strips_by) (c : Cxt M X B_rectangles 3) : DB X (defBody s_rectangles) d_rectangles :=
    (db_cons (ds_set c 1 rfl (by decide) (de_newl da_nil))
    (db_cons (ds_for c [2, 3] (di_zip2 c 0 rfl T.z_zip (da_cons (de_ix c.roomH (de_var c 0 rfl (by decide)) de_int (fun _ _ => rfl)) (da_cons (de_fn c (h_strips_by.up (by decide)) 1 rfl (da_cons (de_ix c.roomH (de_var c 0 rfl (by decide)) de_int (fun _ _ => rfl)) (da_cons (de_ix c.roomH (de_var c 0 rfl (by decide)) de_int (fun _ _ => rfl)) da_nil))) da_nil))) (dg_tup c (dgs_cons (dg_name c [2, 3] 2 rfl (by decide) (by decide)) (dgs_cons (dg_name c [2, 3] 3 rfl (by decide) (by decide)) (dgs_nil [2, 3]))) (asks_cons (asks_cons asks_nil)))
    (db_wp [2, 3] (db_one (ds_exp (de_extend (de_var c 1 rfl (by decide)) (da_cons (de_lc c (lc_ok c [(".0", 4), ("start", 5), ("long", 6)] [4, 5, 6, 0, 3] [4, 5, 6] ["rectangle"] ["row", "strip"] (by decide +kernel) (di_seq (de_var c 2 rfl (by decide))) (by decide) (fun _ c6 => (dg_tup c6 (dgs_cons (dg_name c6 [4, 5, 6] 5 rfl (by decide) (by decide)) (dgs_cons (dg_name c6 [4, 5, 6] 6 rfl (by decide) (by decide)) (dgs_nil [4, 5, 6]))) (asks_cons (asks_cons asks_nil)))) (fun _ c6 => dts_nil) (fun _ c6 => (de_fn c6 (h_rectangle.up (by decide)) 0 rfl (da_cons (de_var c6 3 rfl (by decide)) (da_cons (de_ix c6.roomH (de_var c6 0 rfl (by decide)) de_int (fun _ _ => rfl)) (da_cons (de_var c6 5 rfl (by decide)) (da_cons (de_bin o_add (de_var c6 5 rfl (by decide)) (de_var c6 6 rfl (by decide))) da_nil)))))))) da_nil))))))
    (db_one (ds_retf (de_var c 1 rfl (by decide))))))
theorem h_rectangles {M : Md} (T : Hs M) (h_rectangle : Has M false 1 "rectangle" ["strip", "width", "start", "end"] m_rectangle) (h_strips_by : Has M false 3 "strips_by" ["path", "width"] m_strips_by) (F : TopFn M "rectangles" s_rectangles ["row"]) : Has M false 4 "rectangles" ["row"] m_rectangles := has_of F sc_rectangles t_rectangles rfl rfl (fun X c => b_rectangles T h_rectangle h_strips_by c)
abbrev s_stones_of : Stmt := topS 58
def B_stones_of : Tb := ⟨["row"], [0], [0], [0], ["need_row", "rectangles"], [], true, false, none⟩
theorem sc_stones_of : FnScope B_stones_of.N ["row"] (defScope s_stones_of) := ⟨rfl, rfl, rfl, by decide +kernel, rfl, by decide +kernel, by decide +kernel⟩
theorem t_stones_of : fnT B_stones_of (defScope s_stones_of) = true := by decide +kernel
noncomputable def d_stones_of : En → Sto → SR :=
    (sSeq (sExp (eCall m_need_row (aCons (eVar 0) aNil)))
    (sRet (eCall m_rectangles (aCons (eVar 0) aNil))))
noncomputable def m_stones_of : List Wv → Sto → Rs Wv := mkF 1 1 d_stones_of
theorem b_stones_of {M : Md} {X : Cx} (T : Hs M) (h_need_row : Has M false 7 "need_row" ["row"] m_need_row) (h_rectangles : Has M false 4 "rectangles" ["row"] m_rectangles) (c : Cxt M X B_stones_of 7) : DB X (defBody s_stones_of) d_stones_of :=
    (db_cons (ds_exp (de_fn c (h_need_row.up (by decide)) 0 rfl (da_cons (de_var c 0 rfl (by decide)) da_nil)))
    (db_one (ds_ret (de_fn c (h_rectangles.up (by decide)) 1 rfl (da_cons (de_var c 0 rfl (by decide)) da_nil)))))
theorem h_stones_of {M : Md} (T : Hs M) (h_need_row : Has M false 7 "need_row" ["row"] m_need_row) (h_rectangles : Has M false 4 "rectangles" ["row"] m_rectangles) (F : TopFn M "stones_of" s_stones_of ["row"]) : Has M false 8 "stones_of" ["row"] m_stones_of := has_of F sc_stones_of t_stones_of rfl rfl (fun X c => b_stones_of T h_need_row h_rectangles c)
abbrev s__law_area : Stmt := topS 83
def B__law_area : Tb := ⟨["_law_rect"], [0], [0], [0], [], [], true, false, none⟩
theorem sc__law_area : FnScope B__law_area.N ["_law_rect"] (defScope s__law_area) := ⟨rfl, rfl, rfl, by decide +kernel, rfl, by decide +kernel, by decide +kernel⟩
theorem t__law_area : fnT B__law_area (defScope s__law_area) = true := by decide +kernel
noncomputable def d__law_area : En → Sto → SR :=
    (sRet (eOp2 mulD (eOp2 subD (eOp2 ixD (eVar 0) (eK (.int 2))) (eOp2 ixD (eVar 0) (eK (.int 0)))) (eOp2 subD (eOp2 ixD (eVar 0) (eK (.int 3))) (eOp2 ixD (eVar 0) (eK (.int 1))))))
noncomputable def m__law_area : List Wv → Sto → Rs Wv := mkF 1 1 d__law_area
theorem b__law_area {M : Md} {X : Cx} (T : Hs M)  (c : Cxt M X B__law_area 0) : DB X (defBody s__law_area) d__law_area :=
    (db_one (ds_ret (de_bin o_mul (de_bin o_sub (de_ix c.roomH (de_var c 0 rfl (by decide)) de_int (fun _ _ => rfl)) (de_ix c.roomH (de_var c 0 rfl (by decide)) de_int (fun _ _ => rfl))) (de_bin o_sub (de_ix c.roomH (de_var c 0 rfl (by decide)) de_int (fun _ _ => rfl)) (de_ix c.roomH (de_var c 0 rfl (by decide)) de_int (fun _ _ => rfl))))))
theorem h__law_area {M : Md} (T : Hs M)  (F : TopFn M "_law_area" s__law_area ["_law_rect"]) : Has M false 1 "_law_area" ["_law_rect"] m__law_area := has_of F sc__law_area t__law_area rfl rfl (fun X c => b__law_area T  c)
abbrev s_need_rows : Stmt := topS 54
def B_need_rows : Tb := ⟨["rows", ".0", "row"], [0], [0], [0], ["isinstance", "tuple", "len", "MOST_ROWS", "all", "NoRow"], [], true, false, none⟩
theorem sc_need_rows : FnScope B_need_rows.N ["rows"] (defScope s_need_rows) := ⟨rfl, rfl, rfl, by decide +kernel, rfl, by decide +kernel, by decide +kernel⟩
theorem t_need_rows : fnT B_need_rows (defScope s_need_rows) = true := by decide +kernel
noncomputable def d_need_rows : En → Sto → SR :=
    (sIf (tOr2 (tNot1 (tTru (eOp1 (isaD "tuple") (eVar 0)))) (tOr2 (tBl (eOp2 gtD (eOpN lenF (aCons (eVar 0) aNil)) (eK w_MOST_ROWS))) (tNot1 (tTru (eOpN allF (aCons (eLc (cSeq (eVar 0)) (gN 2) tYs (eCall m_is_row (aCons (eVar 2) aNil)) [1, 2]) aNil)))))) sNo sNil)
noncomputable def m_need_rows : List Wv → Sto → Rs Wv := mkF 1 3 d_need_rows
theorem b_need_rows {M : Md} {X : Cx} (T : Hs M) (h_is_row : Has M false 6 "is_row" ["thing"] m_is_row) (c : Cxt M X B_need_rows 6) : DB X (defBody s_need_rows) d_need_rows :=
    (db_one (ds_if (DW.dt (dw_or (dt_not (dt_val (de_isa c 0 1 rfl T.z_isinstance rfl T.z_tuple (by decide +kernel) (de_var c 0 rfl (by decide))))) (dw_or (dt_cmp (o_gt c.roomH) (de_callB (id := "len") c c_len 2 rfl T.z_len (by decide +kernel) (da_cons (de_var c 0 rfl (by decide)) da_nil)) (q_MOST_ROWS T c 3 rfl) (nomark _)) (dw_or1 (dt_not (dt_val (de_callB (id := "all") c (c_all c.calm) 4 rfl T.z_all (by decide +kernel) (da_cons (de_lc c (lc_ok c [(".0", 1), ("row", 2)] [1, 2] [1, 2] ["is_row"] [] (by decide +kernel) (di_seq (de_var c 0 rfl (by decide))) (by decide) (fun _ c7 => (dg_name c7 [1, 2] 2 rfl (by decide) (by decide))) (fun _ c7 => dts_nil) (fun _ c7 => (de_fn c7 (h_is_row.up (by decide)) 0 rfl (da_cons (de_var c7 2 rfl (by decide)) da_nil))))) da_nil)))))))) (db_one ds_no) db_nil))
theorem h_need_rows {M : Md} (T : Hs M) (h_is_row : Has M false 6 "is_row" ["thing"] m_is_row) (F : TopFn M "need_rows" s_need_rows ["rows"]) : Has M false 7 "need_rows" ["rows"] m_need_rows := has_of F sc_need_rows t_need_rows rfl rfl (fun X c => b_need_rows T h_is_row c)
abbrev s_all_stones : Stmt := topS 59
def B_all_stones : Tb := ⟨["rows", "found", "number", "row", ".0", "stone", "here"], [0, 1, 2, 3], [0, 1, 2, 3], [0, 1, 3], ["enumerate", "rectangles"], ["number"], true, false, none⟩
theorem sc_all_stones : FnScope B_all_stones.N ["rows"] (defScope s_all_stones) := ⟨rfl, rfl, rfl, by decide +kernel, rfl, by decide +kernel, by decide +kernel⟩
theorem t_all_stones : fnT B_all_stones (defScope s_all_stones) = true := by decide +kernel
noncomputable def d_all_stones_l1 : En → Sto → SR :=
    (sWp [2, 3] (sExp (eM extW (eVar 1) (aCons (eLc (cEnum (aCons (eCall m_rectangles (aCons (eVar 3) aNil)) aNil)) (gTp (gCn (gN 5) (gCn (gN 6) gNl))) tYs (eTup (aCons (eVar 2) (aCons (eVar 5) (aCons (eVar 6) aNil)))) [4, 5, 6]) aNil))))
noncomputable def d_all_stones : En → Sto → SR :=
    (sSeq (sSet 1 (eNewL aNil))
    (sSeq (sFor (cEnum (aCons (eVar 0) aNil)) (gTp (gCn (gN 2) (gCn (gN 3) gNl))) d_all_stones_l1)
    (sRetF (eVar 1))))
noncomputable def m_all_stones : List Wv → Sto → Rs Wv := mkF 1 7 d_all_stones
theorem b_all_stones {M : Md} {X : Cx} (T : Hs M) (h_rectangles : Has M false 4 "rectangles" ["row"] m_rectangles) (c : Cxt M X B_all_stones 4) : DB X (defBody s_all_stones) d_all_stones :=
    (db_cons (ds_set c 1 rfl (by decide) (de_newl da_nil))
    (db_cons (ds_for c [2, 3] (di_enum c 0 rfl T.z_enumerate (da_cons (de_var c 0 rfl (by decide)) da_nil)) (dg_tup c (dgs_cons (dg_name c [2, 3] 2 rfl (by decide) (by decide)) (dgs_cons (dg_name c [2, 3] 3 rfl (by decide) (by decide)) (dgs_nil [2, 3]))) (asks_cons (asks_cons asks_nil)))
    (db_wp [2, 3] (db_one (ds_exp (de_extend (de_var c 1 rfl (by decide)) (da_cons (de_lc c (lc_ok c [(".0", 4), ("stone", 5), ("here", 6)] [4, 5, 6, 2] [4, 5, 6] [] ["number"] (by decide +kernel) (di_enum c 0 rfl T.z_enumerate (da_cons (de_fn c (h_rectangles.up (by decide)) 1 rfl (da_cons (de_var c 3 rfl (by decide)) da_nil)) da_nil)) (by decide) (fun _ c8 => (dg_tup c8 (dgs_cons (dg_name c8 [4, 5, 6] 5 rfl (by decide) (by decide)) (dgs_cons (dg_name c8 [4, 5, 6] 6 rfl (by decide) (by decide)) (dgs_nil [4, 5, 6]))) (asks_cons (asks_cons asks_nil)))) (fun _ c8 => dts_nil) (fun _ c8 => (de_tup (da_cons (de_var c8 2 rfl (by decide)) (da_cons (de_var c8 5 rfl (by decide)) (da_cons (de_var c8 6 rfl (by decide)) da_nil))))))) da_nil))))))
    (db_one (ds_retf (de_var c 1 rfl (by decide))))))
theorem h_all_stones {M : Md} (T : Hs M) (h_rectangles : Has M false 4 "rectangles" ["row"] m_rectangles) (F : TopFn M "all_stones" s_all_stones ["rows"]) : Has M false 5 "all_stones" ["rows"] m_all_stones := has_of F sc_all_stones t_all_stones rfl rfl (fun X c => b_all_stones T h_rectangles c)
abbrev s_wide_of : Stmt := topS 69
def B_wide_of : Tb := ⟨["stretches", "found", "end", "left", "right"], [0, 1, 2, 3, 4], [0, 1, 2, 3, 4], [0, 1, 2, 3, 4], [], [], true, false, none⟩
theorem sc_wide_of : FnScope B_wide_of.N ["stretches"] (defScope s_wide_of) := ⟨rfl, rfl, rfl, by decide +kernel, rfl, by decide +kernel, by decide +kernel⟩
theorem t_wide_of : fnT B_wide_of (defScope s_wide_of) = true := by decide +kernel
noncomputable def d_wide_of_l1 : En → Sto → SR :=
    (sWp [3, 4] (sSeq (sIf (tOr2 (tBl (eOp2 isND (eVar 2) (eK .none))) (tBl (eOp2 gtD (eVar 3) (eVar 2)))) (sSet 2 (eVar 3)) sNil)
    (sIf (tBl (eOp2 gtD (eVar 4) (eVar 2))) (sSeq (sSet 1 (eOp2 subD (eOp2 addD (eVar 1) (eVar 4)) (eVar 2)))
    (sSet 2 (eVar 4))) sNil)))
noncomputable def d_wide_of : En → Sto → SR :=
    (sSeq (sSet 1 (eK (.int 0)))
    (sSeq (sSet 2 (eK .none))
    (sSeq (sFor (cSeq (eVar 0)) (gTp (gCn (gN 3) (gCn (gN 4) gNl))) d_wide_of_l1)
    (sRet (eVar 1)))))
noncomputable def m_wide_of : List Wv → Sto → Rs Wv := mkF 1 5 d_wide_of
theorem b_wide_of {M : Md} {X : Cx} (T : Hs M)  (c : Cxt M X B_wide_of 0) : DB X (defBody s_wide_of) d_wide_of :=
    (db_cons (ds_set c 1 rfl (by decide) de_int)
    (db_cons (ds_set c 2 rfl (by decide) de_non)
    (db_cons (ds_for c [3, 4] (di_seq (de_var c 0 rfl (by decide))) (dg_tup c (dgs_cons (dg_name c [3, 4] 3 rfl (by decide) (by decide)) (dgs_cons (dg_name c [3, 4] 4 rfl (by decide) (by decide)) (dgs_nil [3, 4]))) (asks_cons (asks_cons asks_nil)))
    (db_wp [3, 4] (db_cons (ds_if (DW.dt (dw_or (dt_cmp o_isN (de_var c 2 rfl (by decide)) de_non (nomark _)) (dw_or1 (dt_cmp (o_gt c.roomH) (de_var c 3 rfl (by decide)) (de_var c 2 rfl (by decide)) (nomark _))))) (db_one (ds_set c 2 rfl (by decide) (de_var c 3 rfl (by decide)))) db_nil)
    (db_one (ds_if (dt_cmp (o_gt c.roomH) (de_var c 4 rfl (by decide)) (de_var c 2 rfl (by decide)) (nomark _)) (db_cons (ds_set c 1 rfl (by decide) (de_bin o_sub (de_bin o_add (de_var c 1 rfl (by decide)) (de_var c 4 rfl (by decide))) (de_var c 2 rfl (by decide))))
    (db_one (ds_set c 2 rfl (by decide) (de_var c 4 rfl (by decide))))) db_nil)))))
    (db_one (ds_ret (de_var c 1 rfl (by decide)))))))
theorem h_wide_of {M : Md} (T : Hs M)  (F : TopFn M "wide_of" s_wide_of ["stretches"]) : Has M false 1 "wide_of" ["stretches"] m_wide_of := has_of F sc_wide_of t_wide_of rfl rfl (fun X c => b_wide_of T  c)
abbrev s_area_of : Stmt := topS 68
def B_area_of : Tb := ⟨["rows", "some", "lows", "found", "low", "high", "stretches", ".0", "row", "stone", "here"], [0, 1, 2, 3, 4, 5, 6], [0, 1, 2, 3, 4, 5, 6], [0, 1, 2, 3, 6], ["need_rows", "all_stones", "sorted", "set", "zip", "wide_of"], ["low", "high"], true, false, none⟩
theorem sc_area_of : FnScope B_area_of.N ["rows"] (defScope s_area_of) := ⟨rfl, rfl, rfl, by decide +kernel, rfl, by decide +kernel, by decide +kernel⟩
theorem t_area_of : fnT B_area_of (defScope s_area_of) = true := by decide +kernel
noncomputable def d_area_of_l1 : En → Sto → SR :=
    (sWp [4, 5, 6] (sSeq (sSet 6 (eOpN (srtF false) (aCons (eLc (cSeq (eVar 1)) (gN 10) (tAnd2 (tBl (eOp2 leD (eOp2 ixD (eVar 10) (eK (.int 1))) (eVar 4))) (tBl (eOp2 leD (eVar 5) (eOp2 ixD (eVar 10) (eK (.int 3)))))) (eTup (aCons (eOp2 ixD (eVar 10) (eK (.int 0))) (aCons (eOp2 ixD (eVar 10) (eK (.int 2))) aNil))) [7, 10]) aNil)))
    (sSet 3 (eOp2 addD (eVar 3) (eOp2 mulD (eOp2 subD (eVar 5) (eVar 4)) (eCall m_wide_of (aCons (eVar 6) aNil)))))))
noncomputable def d_area_of : En → Sto → SR :=
    (sSeq (sExp (eCall m_need_rows (aCons (eVar 0) aNil)))
    (sSeq (sSet 1 (eLc (cSeq (eCall m_all_stones (aCons (eVar 0) aNil))) (gTp (gCn (gN 8) (gCn (gN 9) (gCn (gN 10) gNl)))) tYs (eVar 10) [7, 8, 9, 10]))
    (sSeq (sSet 2 (eOpN ssF (aCons (eOp2 addD (eLc (cSeq (eVar 1)) (gN 10) tYs (eOp2 ixD (eVar 10) (eK (.int 1))) [7, 10]) (eLc (cSeq (eVar 1)) (gN 10) tYs (eOp2 ixD (eVar 10) (eK (.int 3))) [7, 10])) aNil)))
    (sSeq (sSet 3 (eK (.int 0)))
    (sSeq (sFor (cZip2 (aCons (eVar 2) (aCons (eSlice (eVar 2) (pSome (eK (.int 1))) pNo) aNil))) (gTp (gCn (gN 4) (gCn (gN 5) gNl))) d_area_of_l1)
    (sRet (eVar 3)))))))
noncomputable def m_area_of : List Wv → Sto → Rs Wv := mkF 1 11 d_area_of
theorem b_area_of {M : Md} {X : Cx} (T : Hs M) (h_all_stones : Has M false 5 "all_stones" ["rows"] m_all_stones) (h_need_rows : Has M false 7 "need_rows" ["rows"] m_need_rows) (h_wide_of : Has M false 1 "wide_of" ["stretches"] m_wide_of) (c : Cxt M X B_area_of 7) : DB X (defBody s_area_of) d_area_of :=
    (db_cons (ds_exp (de_fn c (h_need_rows.up (by decide)) 0 rfl (da_cons (de_var c 0 rfl (by decide)) da_nil)))
    (db_cons (ds_setlc c 1 rfl (by decide) rfl (lc_ok c [(".0", 7), ("row", 8), ("stone", 9), ("here", 10)] [7, 8, 9, 10] [7, 8, 9, 10] [] [] (by decide +kernel) (di_seq (de_fn c (h_all_stones.up (by decide)) 1 rfl (da_cons (de_var c 0 rfl (by decide)) da_nil))) (by decide) (fun _ c9 => (dg_tup c9 (dgs_cons (dg_name c9 [7, 8, 9, 10] 8 rfl (by decide) (by decide)) (dgs_cons (dg_name c9 [7, 8, 9, 10] 9 rfl (by decide) (by decide)) (dgs_cons (dg_name c9 [7, 8, 9, 10] 10 rfl (by decide) (by decide)) (dgs_nil [7, 8, 9, 10])))) (asks_cons (asks_cons (asks_cons asks_nil))))) (fun _ c9 => dts_nil) (fun _ c9 => (de_var c9 10 rfl (by decide)))) rfl (by decide +kernel))
    (db_cons (ds_set c 2 rfl (by decide) (de_ss c 2 3 rfl T.z_sorted rfl T.z_set (by decide +kernel) (by decide +kernel) (da_cons (de_bin o_add (de_lc c (lc_ok c [(".0", 7), ("here", 10)] [7, 10] [7, 10] [] [] (by decide +kernel) (di_seq (de_var c 1 rfl (by decide))) (by decide) (fun _ c10 => (dg_name c10 [7, 10] 10 rfl (by decide) (by decide))) (fun _ c10 => dts_nil) (fun _ c10 => (de_ix c10.roomH (de_var c10 10 rfl (by decide)) de_int (fun _ _ => rfl))))) (de_lc c (lc_ok c [(".0", 7), ("here", 10)] [7, 10] [7, 10] [] [] (by decide +kernel) (di_seq (de_var c 1 rfl (by decide))) (by decide) (fun _ c11 => (dg_name c11 [7, 10] 10 rfl (by decide) (by decide))) (fun _ c11 => dts_nil) (fun _ c11 => (de_ix c11.roomH (de_var c11 10 rfl (by decide)) de_int (fun _ _ => rfl)))))) da_nil)))
    (db_cons (ds_set c 3 rfl (by decide) de_int)
    (db_cons (ds_for c [4, 5] (di_zip2 c 4 rfl T.z_zip (da_cons (de_var c 2 rfl (by decide)) (da_cons (de_slice (de_var c 2 rfl (by decide)) (do_some de_int) do_no) da_nil))) (dg_tup c (dgs_cons (dg_name c [4, 5] 4 rfl (by decide) (by decide)) (dgs_cons (dg_name c [4, 5] 5 rfl (by decide) (by decide)) (dgs_nil [4, 5]))) (asks_cons (asks_cons asks_nil)))
    (db_wp [4, 5, 6] (db_cons (ds_set c 6 rfl (by decide) (de_callB (id := "sorted") c (c_sorted c.roomH) 2 rfl T.z_sorted (by decide +kernel) (da_cons (de_lc c (lc_ok c [(".0", 7), ("here", 10)] [7, 10, 5, 4] [7, 10] [] ["high", "low"] (by decide +kernel) (di_seq (de_var c 1 rfl (by decide))) (by decide) (fun _ c12 => (dg_name c12 [7, 10] 10 rfl (by decide) (by decide))) (fun _ c12 => (dts_one (DW.dt (dw_and (dt_cmp (o_le c12.roomH) (de_ix c12.roomH (de_var c12 10 rfl (by decide)) de_int (fun _ _ => rfl)) (de_var c12 4 rfl (by decide)) (nomark _)) (dw_and1 (dt_cmp (o_le c12.roomH) (de_var c12 5 rfl (by decide)) (de_ix c12.roomH (de_var c12 10 rfl (by decide)) de_int (fun _ _ => rfl)) (nomark _))))))) (fun _ c12 => (de_tup (da_cons (de_ix c12.roomH (de_var c12 10 rfl (by decide)) de_int (fun _ _ => rfl)) (da_cons (de_ix c12.roomH (de_var c12 10 rfl (by decide)) de_int (fun _ _ => rfl)) da_nil)))))) da_nil)))
    (db_one (ds_set c 3 rfl (by decide) (de_bin o_add (de_var c 3 rfl (by decide)) (de_bin o_mul (de_bin o_sub (de_var c 5 rfl (by decide)) (de_var c 4 rfl (by decide))) (de_fn c (h_wide_of.up (by decide)) 5 rfl (da_cons (de_var c 6 rfl (by decide)) da_nil)))))))))
    (db_one (ds_ret (de_var c 3 rfl (by decide)))))))))
theorem h_area_of {M : Md} (T : Hs M) (h_all_stones : Has M false 5 "all_stones" ["rows"] m_all_stones) (h_need_rows : Has M false 7 "need_rows" ["rows"] m_need_rows) (h_wide_of : Has M false 1 "wide_of" ["stretches"] m_wide_of) (F : TopFn M "area_of" s_area_of ["rows"]) : Has M false 8 "area_of" ["rows"] m_area_of := has_of F sc_area_of t_area_of rfl rfl (fun X c => b_area_of T h_all_stones h_need_rows h_wide_of c)
abbrev s_need_square : Stmt := topS 66
def B_need_square : Tb := ⟨["x", "y"], [0, 1], [0, 1], [0, 1], ["is_whole", "NoPlace"], [], true, false, none⟩
theorem sc_need_square : FnScope B_need_square.N ["x", "y"] (defScope s_need_square) := ⟨rfl, rfl, rfl, by decide +kernel, rfl, by decide +kernel, by decide +kernel⟩
theorem t_need_square : fnT B_need_square (defScope s_need_square) = true := by decide +kernel
noncomputable def d_need_square : En → Sto → SR :=
    (sIf (tOr2 (tNot1 (tTru (eCall m_is_whole (aCons (eVar 0) aNil)))) (tNot1 (tTru (eCall m_is_whole (aCons (eVar 1) aNil))))) sNo sNil)
noncomputable def m_need_square : List Wv → Sto → Rs Wv := mkF 2 2 d_need_square
theorem b_need_square {M : Md} {X : Cx} (T : Hs M) (h_is_whole : Has M false 1 "is_whole" ["thing"] m_is_whole) (c : Cxt M X B_need_square 1) : DB X (defBody s_need_square) d_need_square :=
    (db_one (ds_if (DW.dt (dw_or (dt_not (dt_val (de_fn c (h_is_whole.up (by decide)) 0 rfl (da_cons (de_var c 0 rfl (by decide)) da_nil)))) (dw_or1 (dt_not (dt_val (de_fn c (h_is_whole.up (by decide)) 0 rfl (da_cons (de_var c 1 rfl (by decide)) da_nil))))))) (db_one ds_no) db_nil))
theorem h_need_square {M : Md} (T : Hs M) (h_is_whole : Has M false 1 "is_whole" ["thing"] m_is_whole) (F : TopFn M "need_square" s_need_square ["x", "y"]) : Has M false 2 "need_square" ["x", "y"] m_need_square := has_of F sc_need_square t_need_square rfl rfl (fun X c => b_need_square T h_is_whole c)
abbrev s_holds_square : Stmt := topS 64
def B_holds_square : Tb := ⟨["here", "x", "y"], [0, 1, 2], [0, 1, 2], [0, 1, 2], [], [], true, false, none⟩
theorem sc_holds_square : FnScope B_holds_square.N ["here", "x", "y"] (defScope s_holds_square) := ⟨rfl, rfl, rfl, by decide +kernel, rfl, by decide +kernel, by decide +kernel⟩
theorem t_holds_square : fnT B_holds_square (defScope s_holds_square) = true := by decide +kernel
noncomputable def d_holds_square : En → Sto → SR :=
    (sRet (eAnd2 (eChain leD ltD (eOp2 ixD (eVar 0) (eK (.int 0))) (eVar 1) (eOp2 ixD (eVar 0) (eK (.int 2)))) (eChain leD ltD (eOp2 ixD (eVar 0) (eK (.int 1))) (eVar 2) (eOp2 ixD (eVar 0) (eK (.int 3))))))
noncomputable def m_holds_square : List Wv → Sto → Rs Wv := mkF 3 3 d_holds_square
theorem b_holds_square {M : Md} {X : Cx} (T : Hs M)  (c : Cxt M X B_holds_square 0) : DB X (defBody s_holds_square) d_holds_square :=
    (db_one (ds_ret (de_and (de_chain (o_le c.roomH) (o_lt c.roomH) (de_ix c.roomH (de_var c 0 rfl (by decide)) de_int (fun _ _ => rfl)) (de_var c 1 rfl (by decide)) (de_ix c.roomH (de_var c 0 rfl (by decide)) de_int (fun _ _ => rfl))) (de_one (de_chain (o_le c.roomH) (o_lt c.roomH) (de_ix c.roomH (de_var c 0 rfl (by decide)) de_int (fun _ _ => rfl)) (de_var c 2 rfl (by decide)) (de_ix c.roomH (de_var c 0 rfl (by decide)) de_int (fun _ _ => rfl)))))))
theorem h_holds_square {M : Md} (T : Hs M)  (F : TopFn M "holds_square" s_holds_square ["here", "x", "y"]) : Has M false 1 "holds_square" ["here", "x", "y"] m_holds_square := has_of F sc_holds_square t_holds_square rfl rfl (fun X c => b_holds_square T  c)
abbrev s_at_by : Stmt := topS 65
def B_at_by : Tb := ⟨["rows", "x", "y", "row", "stone", "here"], [0, 1, 2, 3, 4, 5], [0, 1, 2, 3, 4, 5], [0, 1, 2, 3, 4, 5], ["all_stones", "holds_square"], [], true, false, none⟩
theorem sc_at_by : FnScope B_at_by.N ["rows", "x", "y"] (defScope s_at_by) := ⟨rfl, rfl, rfl, by decide +kernel, rfl, by decide +kernel, by decide +kernel⟩
theorem t_at_by : fnT B_at_by (defScope s_at_by) = true := by decide +kernel
noncomputable def d_at_by_l1 : En → Sto → SR :=
    (sWp [3, 4, 5] (sIf (tTru (eCall m_holds_square (aCons (eVar 5) (aCons (eVar 1) (aCons (eVar 2) aNil))))) (sRet (eTup (aCons (eVar 3) (aCons (eVar 4) aNil)))) sNil))
noncomputable def d_at_by : En → Sto → SR :=
    (sSeq (sFor (cSeq (eCall m_all_stones (aCons (eVar 0) aNil))) (gTp (gCn (gN 3) (gCn (gN 4) (gCn (gN 5) gNl)))) d_at_by_l1)
    (sRet (eK .none)))
noncomputable def m_at_by : List Wv → Sto → Rs Wv := mkF 3 6 d_at_by
theorem b_at_by {M : Md} {X : Cx} (T : Hs M) (h_all_stones : Has M false 5 "all_stones" ["rows"] m_all_stones) (h_holds_square : Has M false 1 "holds_square" ["here", "x", "y"] m_holds_square) (c : Cxt M X B_at_by 5) : DB X (defBody s_at_by) d_at_by :=
    (db_cons (ds_for c [3, 4, 5] (di_seq (de_fn c (h_all_stones.up (by decide)) 0 rfl (da_cons (de_var c 0 rfl (by decide)) da_nil))) (dg_tup c (dgs_cons (dg_name c [3, 4, 5] 3 rfl (by decide) (by decide)) (dgs_cons (dg_name c [3, 4, 5] 4 rfl (by decide) (by decide)) (dgs_cons (dg_name c [3, 4, 5] 5 rfl (by decide) (by decide)) (dgs_nil [3, 4, 5])))) (asks_cons (asks_cons (asks_cons asks_nil))))
    (db_wp [3, 4, 5] (db_one (ds_if (dt_val (de_fn c (h_holds_square.up (by decide)) 1 rfl (da_cons (de_var c 5 rfl (by decide)) (da_cons (de_var c 1 rfl (by decide)) (da_cons (de_var c 2 rfl (by decide)) da_nil))))) (db_one (ds_ret (de_tup (da_cons (de_var c 3 rfl (by decide)) (da_cons (de_var c 4 rfl (by decide)) da_nil))))) db_nil))))
    (db_one (ds_ret de_non)))
theorem h_at_by {M : Md} (T : Hs M) (h_all_stones : Has M false 5 "all_stones" ["rows"] m_all_stones) (h_holds_square : Has M false 1 "holds_square" ["here", "x", "y"] m_holds_square) (F : TopFn M "at_by" s_at_by ["rows", "x", "y"]) : Has M false 6 "at_by" ["rows", "x", "y"] m_at_by := has_of F sc_at_by t_at_by rfl rfl (fun X c => b_at_by T h_all_stones h_holds_square c)
abbrev s_at_square : Stmt := topS 67
def B_at_square : Tb := ⟨["rows", "x", "y"], [0, 1, 2], [0, 1, 2], [0, 1, 2], ["need_rows", "need_square", "at_by"], [], true, false, none⟩
theorem sc_at_square : FnScope B_at_square.N ["rows", "x", "y"] (defScope s_at_square) := ⟨rfl, rfl, rfl, by decide +kernel, rfl, by decide +kernel, by decide +kernel⟩
theorem t_at_square : fnT B_at_square (defScope s_at_square) = true := by decide +kernel
noncomputable def d_at_square : En → Sto → SR :=
    (sSeq (sExp (eCall m_need_rows (aCons (eVar 0) aNil)))
    (sSeq (sExp (eCall m_need_square (aCons (eVar 1) (aCons (eVar 2) aNil))))
    (sRet (eCall m_at_by (aCons (eVar 0) (aCons (eVar 1) (aCons (eVar 2) aNil)))))))
noncomputable def m_at_square : List Wv → Sto → Rs Wv := mkF 3 3 d_at_square
theorem b_at_square {M : Md} {X : Cx} (T : Hs M) (h_at_by : Has M false 6 "at_by" ["rows", "x", "y"] m_at_by) (h_need_rows : Has M false 7 "need_rows" ["rows"] m_need_rows) (h_need_square : Has M false 2 "need_square" ["x", "y"] m_need_square) (c : Cxt M X B_at_square 7) : DB X (defBody s_at_square) d_at_square :=
    (db_cons (ds_exp (de_fn c (h_need_rows.up (by decide)) 0 rfl (da_cons (de_var c 0 rfl (by decide)) da_nil)))
    (db_cons (ds_exp (de_fn c (h_need_square.up (by decide)) 1 rfl (da_cons (de_var c 1 rfl (by decide)) (da_cons (de_var c 2 rfl (by decide)) da_nil))))
    (db_one (ds_ret (de_fn c (h_at_by.up (by decide)) 2 rfl (da_cons (de_var c 0 rfl (by decide)) (da_cons (de_var c 1 rfl (by decide)) (da_cons (de_var c 2 rfl (by decide)) da_nil))))))))
theorem h_at_square {M : Md} (T : Hs M) (h_at_by : Has M false 6 "at_by" ["rows", "x", "y"] m_at_by) (h_need_rows : Has M false 7 "need_rows" ["rows"] m_need_rows) (h_need_square : Has M false 2 "need_square" ["x", "y"] m_need_square) (F : TopFn M "at_square" s_at_square ["rows", "x", "y"]) : Has M false 8 "at_square" ["rows", "x", "y"] m_at_square := has_of F sc_at_square t_at_square rfl rfl (fun X c => b_at_square T h_at_by h_need_rows h_need_square c)
abbrev s_cover : Stmt := topS 32
def B_cover : Tb := ⟨["one", "other"], [0, 1], [0, 1], [0, 1], [], [], true, false, none⟩
theorem sc_cover : FnScope B_cover.N ["one", "other"] (defScope s_cover) := ⟨rfl, rfl, rfl, by decide +kernel, rfl, by decide +kernel, by decide +kernel⟩
theorem t_cover : fnT B_cover (defScope s_cover) = true := by decide +kernel
noncomputable def d_cover : En → Sto → SR :=
    (sSeq (sIf (tOr2 (tBl (eOp2 geD (eOp2 ixD (eVar 0) (eK (.int 0))) (eOp2 ixD (eVar 1) (eK (.int 2))))) (tBl (eOp2 geD (eOp2 ixD (eVar 1) (eK (.int 0))) (eOp2 ixD (eVar 0) (eK (.int 2)))))) (sRet (eK (.bool false))) sNil)
    (sRet (eAnd2 (eOp2 ltD (eOp2 ixD (eVar 0) (eK (.int 1))) (eOp2 ixD (eVar 1) (eK (.int 3)))) (eOp2 ltD (eOp2 ixD (eVar 1) (eK (.int 1))) (eOp2 ixD (eVar 0) (eK (.int 3)))))))
noncomputable def m_cover : List Wv → Sto → Rs Wv := mkF 2 2 d_cover
theorem b_cover {M : Md} {X : Cx} (T : Hs M)  (c : Cxt M X B_cover 0) : DB X (defBody s_cover) d_cover :=
    (db_cons (ds_if (DW.dt (dw_or (dt_cmp (o_ge c.roomH) (de_ix c.roomH (de_var c 0 rfl (by decide)) de_int (fun _ _ => rfl)) (de_ix c.roomH (de_var c 1 rfl (by decide)) de_int (fun _ _ => rfl)) (nomark _)) (dw_or1 (dt_cmp (o_ge c.roomH) (de_ix c.roomH (de_var c 1 rfl (by decide)) de_int (fun _ _ => rfl)) (de_ix c.roomH (de_var c 0 rfl (by decide)) de_int (fun _ _ => rfl)) (nomark _))))) (db_one (ds_ret de_bl)) db_nil)
    (db_one (ds_ret (de_and (de_cmp (o_lt c.roomH) (de_ix c.roomH (de_var c 0 rfl (by decide)) de_int (fun _ _ => rfl)) (de_ix c.roomH (de_var c 1 rfl (by decide)) de_int (fun _ _ => rfl)) (nomark _)) (de_one (de_cmp (o_lt c.roomH) (de_ix c.roomH (de_var c 1 rfl (by decide)) de_int (fun _ _ => rfl)) (de_ix c.roomH (de_var c 0 rfl (by decide)) de_int (fun _ _ => rfl)) (nomark _)))))))
theorem h_cover {M : Md} (T : Hs M)  (F : TopFn M "cover" s_cover ["one", "other"]) : Has M false 1 "cover" ["one", "other"] m_cover := has_of F sc_cover t_cover rfl rfl (fun X c => b_cover T  c)
abbrev s_over_by : Stmt := topS 60
def B_over_by : Tb := ⟨["rows", "some", "at", "row", "stone", "here", "other", "second", "there"], [0, 1, 2, 3, 4, 5, 6, 7, 8], [0, 1, 2, 3, 4, 5, 6, 7, 8], [0, 1, 2, 3, 4, 5, 6, 7, 8], ["all_stones", "enumerate", "cover"], [], true, false, none⟩
theorem sc_over_by : FnScope B_over_by.N ["rows"] (defScope s_over_by) := ⟨rfl, rfl, rfl, by decide +kernel, rfl, by decide +kernel, by decide +kernel⟩
theorem t_over_by : fnT B_over_by (defScope s_over_by) = true := by decide +kernel
noncomputable def d_over_by_l1 : En → Sto → SR :=
    (sWp [6, 7, 8] (sIf (tTru (eCall m_cover (aCons (eVar 5) (aCons (eVar 8) aNil)))) (sRet (eTup (aCons (eVar 3) (aCons (eVar 4) (aCons (eVar 6) (aCons (eVar 7) aNil)))))) sNil))
noncomputable def d_over_by_l2 : En → Sto → SR :=
    (sWp [2, 3, 4, 5, 6, 7, 8] (sFor (cSeq (eSlice (eVar 1) (pSome (eOp2 addD (eVar 2) (eK (.int 1)))) pNo)) (gTp (gCn (gN 6) (gCn (gN 7) (gCn (gN 8) gNl)))) d_over_by_l1))
noncomputable def d_over_by : En → Sto → SR :=
    (sSeq (sSet 1 (eCall m_all_stones (aCons (eVar 0) aNil)))
    (sSeq (sFor (cEnum (aCons (eVar 1) aNil)) (gTp (gCn (gN 2) (gCn (gTp (gCn (gN 3) (gCn (gN 4) (gCn (gN 5) gNl)))) gNl))) d_over_by_l2)
    (sRet (eK .none))))
noncomputable def m_over_by : List Wv → Sto → Rs Wv := mkF 1 9 d_over_by
theorem b_over_by {M : Md} {X : Cx} (T : Hs M) (h_all_stones : Has M false 5 "all_stones" ["rows"] m_all_stones) (h_cover : Has M false 1 "cover" ["one", "other"] m_cover) (c : Cxt M X B_over_by 5) : DB X (defBody s_over_by) d_over_by :=
    (db_cons (ds_set c 1 rfl (by decide) (de_fn c (h_all_stones.up (by decide)) 0 rfl (da_cons (de_var c 0 rfl (by decide)) da_nil)))
    (db_cons (ds_for c [2, 3, 4, 5] (di_enum c 1 rfl T.z_enumerate (da_cons (de_var c 1 rfl (by decide)) da_nil)) (dg_tup c (dgs_cons (dg_name c [2, 3, 4, 5] 2 rfl (by decide) (by decide)) (dgs_cons (dg_tup c (dgs_cons (dg_name c [2, 3, 4, 5] 3 rfl (by decide) (by decide)) (dgs_cons (dg_name c [2, 3, 4, 5] 4 rfl (by decide) (by decide)) (dgs_cons (dg_name c [2, 3, 4, 5] 5 rfl (by decide) (by decide)) (dgs_nil [2, 3, 4, 5])))) (asks_cons (asks_cons (asks_cons asks_nil)))) (dgs_nil [2, 3, 4, 5]))) (asks_cons (asks_cons asks_nil)))
    (db_wp [2, 3, 4, 5, 6, 7, 8] (db_one (ds_for c [6, 7, 8] (di_seq (de_slice (de_var c 1 rfl (by decide)) (do_some (de_bin o_add (de_var c 2 rfl (by decide)) de_int)) do_no)) (dg_tup c (dgs_cons (dg_name c [6, 7, 8] 6 rfl (by decide) (by decide)) (dgs_cons (dg_name c [6, 7, 8] 7 rfl (by decide) (by decide)) (dgs_cons (dg_name c [6, 7, 8] 8 rfl (by decide) (by decide)) (dgs_nil [6, 7, 8])))) (asks_cons (asks_cons (asks_cons asks_nil))))
    (db_wp [6, 7, 8] (db_one (ds_if (dt_val (de_fn c (h_cover.up (by decide)) 2 rfl (da_cons (de_var c 5 rfl (by decide)) (da_cons (de_var c 8 rfl (by decide)) da_nil)))) (db_one (ds_ret (de_tup (da_cons (de_var c 3 rfl (by decide)) (da_cons (de_var c 4 rfl (by decide)) (da_cons (de_var c 6 rfl (by decide)) (da_cons (de_var c 7 rfl (by decide)) da_nil))))))) db_nil)))))))
    (db_one (ds_ret de_non))))
theorem h_over_by {M : Md} (T : Hs M) (h_all_stones : Has M false 5 "all_stones" ["rows"] m_all_stones) (h_cover : Has M false 1 "cover" ["one", "other"] m_cover) (F : TopFn M "over_by" s_over_by ["rows"]) : Has M false 6 "over_by" ["rows"] m_over_by := has_of F sc_over_by t_over_by rfl rfl (fun X c => b_over_by T h_all_stones h_cover c)
abbrev s_first_over : Stmt := topS 61
def B_first_over : Tb := ⟨["rows"], [0], [0], [0], ["need_rows", "over_by"], [], true, false, none⟩
theorem sc_first_over : FnScope B_first_over.N ["rows"] (defScope s_first_over) := ⟨rfl, rfl, rfl, by decide +kernel, rfl, by decide +kernel, by decide +kernel⟩
theorem t_first_over : fnT B_first_over (defScope s_first_over) = true := by decide +kernel
noncomputable def d_first_over : En → Sto → SR :=
    (sSeq (sExp (eCall m_need_rows (aCons (eVar 0) aNil)))
    (sRet (eCall m_over_by (aCons (eVar 0) aNil))))
noncomputable def m_first_over : List Wv → Sto → Rs Wv := mkF 1 1 d_first_over
theorem b_first_over {M : Md} {X : Cx} (T : Hs M) (h_need_rows : Has M false 7 "need_rows" ["rows"] m_need_rows) (h_over_by : Has M false 6 "over_by" ["rows"] m_over_by) (c : Cxt M X B_first_over 7) : DB X (defBody s_first_over) d_first_over :=
    (db_cons (ds_exp (de_fn c (h_need_rows.up (by decide)) 0 rfl (da_cons (de_var c 0 rfl (by decide)) da_nil)))
    (db_one (ds_ret (de_fn c (h_over_by.up (by decide)) 1 rfl (da_cons (de_var c 0 rfl (by decide)) da_nil)))))
theorem h_first_over {M : Md} (T : Hs M) (h_need_rows : Has M false 7 "need_rows" ["rows"] m_need_rows) (h_over_by : Has M false 6 "over_by" ["rows"] m_over_by) (F : TopFn M "first_over" s_first_over ["rows"]) : Has M false 8 "first_over" ["rows"] m_first_over := has_of F sc_first_over t_first_over rfl rfl (fun X c => b_first_over T h_need_rows h_over_by c)
abbrev s__law_rows_right : Stmt := topS 85
def B__law_rows_right : Tb := ⟨["_law_rows", "_law_rects", "_law_row_here", "_law_rect", "_law_whole", "_law_number", "_law_stone", "_law_found", "_law_moved", ".0", "_law_path_here", "_law_width", "_law_laid"], [0, 1, 2, 3, 4, 5, 6, 7, 8], [0, 1, 2, 3, 4, 5, 6, 7, 8], [0, 1, 2, 3, 4, 5, 6, 7, 8], ["stones_of", "sum", "first_over", "area_of", "enumerate", "at_square", "tuple"], [], true, false, none⟩
theorem sc__law_rows_right : FnScope B__law_rows_right.N ["_law_rows"] (defScope s__law_rows_right) := ⟨rfl, rfl, rfl, by decide +kernel, rfl, by decide +kernel, by decide +kernel⟩
theorem t__law_rows_right : fnT B__law_rows_right (defScope s__law_rows_right) = true := by decide +kernel
noncomputable def d__law_rows_right_l1 : En → Sto → SR :=
    (sWp [2] (sExp (eM extW (eVar 1) (aCons (eCall m_stones_of (aCons (eVar 2) aNil)) aNil))))
noncomputable def d__law_rows_right_l2 : En → Sto → SR :=
    (sWp [3, 6, 7] (sSeq (sSet 7 (eCall m_at_square (aCons (eVar 0) (aCons (eOp2 ixD (eVar 3) (eK (.int 0))) (aCons (eOp2 subD (eOp2 ixD (eVar 3) (eK (.int 3))) (eK (.int 1))) aNil)))))
    (sIf (tOr2 (tBl (eOp2 isND (eVar 7) (eK .none))) (tBl (eOp2 gtD (eVar 7) (eTup (aCons (eVar 5) (aCons (eVar 6) aNil)))))) (sRet (eK (.bool false))) sNil)))
noncomputable def d__law_rows_right_l3 : En → Sto → SR :=
    (sWp [2, 3, 5, 6, 7] (sFor (cEnum (aCons (eCall m_stones_of (aCons (eVar 2) aNil)) aNil)) (gTp (gCn (gN 6) (gCn (gN 3) gNl))) d__law_rows_right_l2))
noncomputable def d__law_rows_right : En → Sto → SR :=
    (sSeq (sSet 1 (eNewL aNil))
    (sSeq (sWi [2] (sFor (cSeq (eVar 0)) (gN 2) d__law_rows_right_l1))
    (sSeq (sSet 4 (eOpN sumF (aCons (eLc (cSeq (eVar 1)) (gN 3) tYs (eCall m__law_area (aCons (eVar 3) aNil)) [9, 3]) aNil)))
    (sSeq (sIf (tOr2 (tBl (eOp2 neD (eOp2 isND (eCall m_first_over (aCons (eVar 0) aNil)) (eK .none)) (eOp2 eqD (eCall m_area_of (aCons (eVar 0) aNil)) (eVar 4)))) (tBl (eOp2 gtD (eCall m_area_of (aCons (eVar 0) aNil)) (eVar 4)))) (sRet (eK (.bool false))) sNil)
    (sSeq (sWi [2] (sFor (cEnum (aCons (eVar 0) aNil)) (gTp (gCn (gN 5) (gCn (gN 2) gNl))) d__law_rows_right_l3))
    (sSeq (sSet 8 (eOpN tupF (aCons (eLc (cSeq (eVar 0)) (gTp (gCn (gN 10) (gCn (gN 11) (gCn (gN 12) gNl)))) tYs (eTup (aCons (eTup (aCons (eOp2 addD (eOp2 ixD (eVar 10) (eK (.int 0))) (eK (.int 9))) (aCons (eOp2 subD (eOp2 ixD (eVar 10) (eK (.int 1))) (eK (.int 4))) (aCons (eOp2 ixD (eVar 10) (eK (.int 2))) aNil)))) (aCons (eVar 11) (aCons (eVar 12) aNil)))) [9, 10, 11, 12]) aNil)))
    (sRet (eAnd2 (eOp2 eqD (eCall m_first_over (aCons (eVar 8) aNil)) (eCall m_first_over (aCons (eVar 0) aNil))) (eOp2 eqD (eCall m_area_of (aCons (eVar 8) aNil)) (eCall m_area_of (aCons (eVar 0) aNil)))))))))))
noncomputable def m__law_rows_right : List Wv → Sto → Rs Wv := mkF 1 13 d__law_rows_right
theorem b__law_rows_right {M : Md} {X : Cx} (T : Hs M) (h__law_area : Has M false 1 "_law_area" ["_law_rect"] m__law_area) (h_area_of : Has M false 8 "area_of" ["rows"] m_area_of) (h_at_square : Has M false 8 "at_square" ["rows", "x", "y"] m_at_square) (h_first_over : Has M false 8 "first_over" ["rows"] m_first_over) (h_stones_of : Has M false 8 "stones_of" ["row"] m_stones_of) (c : Cxt M X B__law_rows_right 8) : DB X (defBody s__law_rows_right) d__law_rows_right :=
    (db_cons (ds_set c 1 rfl (by decide) (de_newl da_nil))
    (db_cons (ds_wi [2] (ds_for c [2] (di_seq (de_var c 0 rfl (by decide))) (dg_name c [2] 2 rfl (by decide) (by decide))
    (db_wp [2] (db_one (ds_exp (de_extend (de_var c 1 rfl (by decide)) (da_cons (de_fn c (h_stones_of.up (by decide)) 0 rfl (da_cons (de_var c 2 rfl (by decide)) da_nil)) da_nil)))))))
    (db_cons (ds_set c 4 rfl (by decide) (de_callB (id := "sum") c (c_sum c.calm) 1 rfl T.z_sum (by decide +kernel) (da_cons (de_lc c (lc_ok c [(".0", 9), ("_law_rect", 3)] [9, 3] [9, 3] ["_law_area"] [] (by decide +kernel) (di_seq (de_var c 1 rfl (by decide))) (by decide) (fun _ c13 => (dg_name c13 [9, 3] 3 rfl (by decide) (by decide))) (fun _ c13 => dts_nil) (fun _ c13 => (de_fn c13 (h__law_area.up (by decide)) 0 rfl (da_cons (de_var c13 3 rfl (by decide)) da_nil))))) da_nil)))
    (db_cons (ds_if (DW.dt (dw_or (dt_cmp (o_ne c.roomH) (de_cmp o_isN (de_fn c (h_first_over.up (by decide)) 2 rfl (da_cons (de_var c 0 rfl (by decide)) da_nil)) de_non (nomark _)) (de_cmp (o_eq c.roomH) (de_fn c (h_area_of.up (by decide)) 3 rfl (da_cons (de_var c 0 rfl (by decide)) da_nil)) (de_var c 4 rfl (by decide)) (nomark _)) (nomark _)) (dw_or1 (dt_cmp (o_gt c.roomH) (de_fn c (h_area_of.up (by decide)) 3 rfl (da_cons (de_var c 0 rfl (by decide)) da_nil)) (de_var c 4 rfl (by decide)) (nomark _))))) (db_one (ds_ret de_bl)) db_nil)
    (db_cons (ds_wi [2] (ds_for c [2, 5] (di_enum c 4 rfl T.z_enumerate (da_cons (de_var c 0 rfl (by decide)) da_nil)) (dg_tup c (dgs_cons (dg_name c [2, 5] 5 rfl (by decide) (by decide)) (dgs_cons (dg_name c [2, 5] 2 rfl (by decide) (by decide)) (dgs_nil [2, 5]))) (asks_cons (asks_cons asks_nil)))
    (db_wp [2, 3, 5, 6, 7] (db_one (ds_for c [3, 6] (di_enum c 4 rfl T.z_enumerate (da_cons (de_fn c (h_stones_of.up (by decide)) 0 rfl (da_cons (de_var c 2 rfl (by decide)) da_nil)) da_nil)) (dg_tup c (dgs_cons (dg_name c [3, 6] 6 rfl (by decide) (by decide)) (dgs_cons (dg_name c [3, 6] 3 rfl (by decide) (by decide)) (dgs_nil [3, 6]))) (asks_cons (asks_cons asks_nil)))
    (db_wp [3, 6, 7] (db_cons (ds_set c 7 rfl (by decide) (de_fn c (h_at_square.up (by decide)) 5 rfl (da_cons (de_var c 0 rfl (by decide)) (da_cons (de_ix c.roomH (de_var c 3 rfl (by decide)) de_int (fun _ _ => rfl)) (da_cons (de_bin o_sub (de_ix c.roomH (de_var c 3 rfl (by decide)) de_int (fun _ _ => rfl)) de_int) da_nil)))))
    (db_one (ds_if (DW.dt (dw_or (dt_cmp o_isN (de_var c 7 rfl (by decide)) de_non (nomark _)) (dw_or1 (dt_cmp (o_gt c.roomH) (de_var c 7 rfl (by decide)) (de_tup (da_cons (de_var c 5 rfl (by decide)) (da_cons (de_var c 6 rfl (by decide)) da_nil))) (nomark _))))) (db_one (ds_ret de_bl)) db_nil)))))))))
    (db_cons (ds_set c 8 rfl (by decide) (de_callT (T := "tuple") c c_tup 6 rfl T.z_tuple (by decide +kernel) (da_cons (de_lc c (lc_ok c [(".0", 9), ("_law_path_here", 10), ("_law_width", 11), ("_law_laid", 12)] [9, 10, 11, 12] [9, 10, 11, 12] [] [] (by decide +kernel) (di_seq (de_var c 0 rfl (by decide))) (by decide) (fun _ c14 => (dg_tup c14 (dgs_cons (dg_name c14 [9, 10, 11, 12] 10 rfl (by decide) (by decide)) (dgs_cons (dg_name c14 [9, 10, 11, 12] 11 rfl (by decide) (by decide)) (dgs_cons (dg_name c14 [9, 10, 11, 12] 12 rfl (by decide) (by decide)) (dgs_nil [9, 10, 11, 12])))) (asks_cons (asks_cons (asks_cons asks_nil))))) (fun _ c14 => dts_nil) (fun _ c14 => (de_tup (da_cons (de_tup (da_cons (de_bin o_add (de_ix c14.roomH (de_var c14 10 rfl (by decide)) de_int (fun _ _ => rfl)) de_int) (da_cons (de_bin o_sub (de_ix c14.roomH (de_var c14 10 rfl (by decide)) de_int (fun _ _ => rfl)) de_int) (da_cons (de_ix c14.roomH (de_var c14 10 rfl (by decide)) de_int (fun _ _ => rfl)) da_nil)))) (da_cons (de_var c14 11 rfl (by decide)) (da_cons (de_var c14 12 rfl (by decide)) da_nil))))))) da_nil)))
    (db_one (ds_ret (de_and (de_cmp (o_eq c.roomH) (de_fn c (h_first_over.up (by decide)) 2 rfl (da_cons (de_var c 8 rfl (by decide)) da_nil)) (de_fn c (h_first_over.up (by decide)) 2 rfl (da_cons (de_var c 0 rfl (by decide)) da_nil)) (nomark _)) (de_one (de_cmp (o_eq c.roomH) (de_fn c (h_area_of.up (by decide)) 3 rfl (da_cons (de_var c 8 rfl (by decide)) da_nil)) (de_fn c (h_area_of.up (by decide)) 3 rfl (da_cons (de_var c 0 rfl (by decide)) da_nil)) (nomark _))))))))))))
theorem h__law_rows_right {M : Md} (T : Hs M) (h__law_area : Has M false 1 "_law_area" ["_law_rect"] m__law_area) (h_area_of : Has M false 8 "area_of" ["rows"] m_area_of) (h_at_square : Has M false 8 "at_square" ["rows", "x", "y"] m_at_square) (h_first_over : Has M false 8 "first_over" ["rows"] m_first_over) (h_stones_of : Has M false 8 "stones_of" ["row"] m_stones_of) (F : TopFn M "_law_rows_right" s__law_rows_right ["_law_rows"]) : Has M false 9 "_law_rows_right" ["_law_rows"] m__law_rows_right := has_of F sc__law_rows_right t__law_rows_right rfl rfl (fun X c => b__law_rows_right T h__law_area h_area_of h_at_square h_first_over h_stones_of c)
abbrev s__law_step : Stmt := topS 77
def B__law_step : Tb := ⟨["_law_way"], [0], [0], [0], [], [], true, false, none⟩
theorem sc__law_step : FnScope B__law_step.N ["_law_way"] (defScope s__law_step) := ⟨rfl, rfl, rfl, by decide +kernel, rfl, by decide +kernel, by decide +kernel⟩
theorem t__law_step : fnT B__law_step (defScope s__law_step) = true := by decide +kernel
noncomputable def d__law_step : En → Sto → SR :=
    (sRet (eOp2 ixD (eDic (aCons (eK (.str "east")) (aCons (eTup (aCons (eK (.int 1)) (aCons (eK (.int 0)) aNil))) (aCons (eK (.str "north")) (aCons (eTup (aCons (eK (.int 0)) (aCons (eK (.int 1)) aNil))) (aCons (eK (.str "west")) (aCons (eTup (aCons (eOp1 negD (eK (.int 1))) (aCons (eK (.int 0)) aNil))) (aCons (eK (.str "south")) (aCons (eTup (aCons (eK (.int 0)) (aCons (eOp1 negD (eK (.int 1))) aNil))) aNil))))))))) (eVar 0)))
noncomputable def m__law_step : List Wv → Sto → Rs Wv := mkF 1 1 d__law_step
theorem b__law_step {M : Md} {X : Cx} (T : Hs M)  (c : Cxt M X B__law_step 0) : DB X (defBody s__law_step) d__law_step :=
    (db_one (ds_ret (de_ix c.roomH (de_dic (dp_cons de_str (de_tup (da_cons de_int (da_cons de_int da_nil))) (dp_cons de_str (de_tup (da_cons de_int (da_cons de_int da_nil))) (dp_cons de_str (de_tup (da_cons (de_un o_neg de_int) (da_cons de_int da_nil))) (dp_cons de_str (de_tup (da_cons de_int (da_cons (de_un o_neg de_int) da_nil))) dp_nil))))) (de_var c 0 rfl (by decide)) (fun _ _ => rfl))))
theorem h__law_step {M : Md} (T : Hs M)  (F : TopFn M "_law_step" s__law_step ["_law_way"]) : Has M false 1 "_law_step" ["_law_way"] m__law_step := has_of F sc__law_step t__law_step rfl rfl (fun X c => b__law_step T  c)
abbrev s__law_side : Stmt := topS 78
def B__law_side : Tb := ⟨["_law_one", "_law_other", "_law_a", "_law_b"], [0, 1, 2, 3], [0, 1, 2, 3], [0, 1, 2, 3], ["_law_step"], [], true, false, none⟩
theorem sc__law_side : FnScope B__law_side.N ["_law_one", "_law_other"] (defScope s__law_side) := ⟨rfl, rfl, rfl, by decide +kernel, rfl, by decide +kernel, by decide +kernel⟩
theorem t__law_side : fnT B__law_side (defScope s__law_side) = true := by decide +kernel
noncomputable def d__law_side : En → Sto → SR :=
    (sSeq (sPar2 2 3 (aCons (eCall m__law_step (aCons (eVar 0) aNil)) (aCons (eCall m__law_step (aCons (eVar 1) aNil)) aNil)))
    (sRet (eIf (tBl (eOp2 eqD (eOp2 subD (eOp2 mulD (eOp2 ixD (eVar 2) (eK (.int 0))) (eOp2 ixD (eVar 3) (eK (.int 1)))) (eOp2 mulD (eOp2 ixD (eVar 2) (eK (.int 1))) (eOp2 ixD (eVar 3) (eK (.int 0))))) (eK (.int 1)))) (eK (.str "left")) (eK (.str "right")))))
noncomputable def m__law_side : List Wv → Sto → Rs Wv := mkF 2 4 d__law_side
theorem b__law_side {M : Md} {X : Cx} (T : Hs M) (h__law_step : Has M false 1 "_law_step" ["_law_way"] m__law_step) (c : Cxt M X B__law_side 1) : DB X (defBody s__law_side) d__law_side :=
    (db_cons (ds_par2 c 2 3 rfl rfl (by decide) (isLoc c (i := 2) (by decide) rfl) (isLoc c (i := 3) (by decide) rfl) (da_cons (de_fn c (h__law_step.up (by decide)) 0 rfl (da_cons (de_var c 0 rfl (by decide)) da_nil)) (da_cons (de_fn c (h__law_step.up (by decide)) 0 rfl (da_cons (de_var c 1 rfl (by decide)) da_nil)) da_nil)) (sw2 c (i := 2) (j := 3) rfl rfl (by decide) (by decide) (by decide +kernel) rfl rfl (by intro _ _ h; cases h) (by intro _ _ h; cases h) rfl rfl))
    (db_one (ds_ret (de_if (dt_cmp (o_eq c.roomH) (de_bin o_sub (de_bin o_mul (de_ix c.roomH (de_var c 2 rfl (by decide)) de_int (fun _ _ => rfl)) (de_ix c.roomH (de_var c 3 rfl (by decide)) de_int (fun _ _ => rfl))) (de_bin o_mul (de_ix c.roomH (de_var c 2 rfl (by decide)) de_int (fun _ _ => rfl)) (de_ix c.roomH (de_var c 3 rfl (by decide)) de_int (fun _ _ => rfl)))) de_int (nomark _)) de_str de_str))))
theorem h__law_side {M : Md} (T : Hs M) (h__law_step : Has M false 1 "_law_step" ["_law_way"] m__law_step) (F : TopFn M "_law_side" s__law_side ["_law_one", "_law_other"]) : Has M false 2 "_law_side" ["_law_one", "_law_other"] m__law_side := has_of F sc__law_side t__law_side rfl rfl (fun X c => b__law_side T h__law_step c)
abbrev s__law_strips : Stmt := topS 79
def B__law_strips : Tb := ⟨["_law_path_here", "_law_width", "_law_x", "_law_y", "_law_legs", "_law_found", "_law_k", "_law_way", "_law_long", "_law_a", "_law_b", "_law_begin", "_law_end"], [0, 1, 2, 3, 4, 5, 6, 7, 8, 9, 10, 11, 12], [0, 1, 2, 3, 4, 5, 6, 7, 8, 9, 10, 11, 12], [0, 1, 2, 3, 4, 5, 6, 7, 8, 9, 10, 11, 12], ["enumerate", "_law_step", "_law_side", "len"], [], true, false, none⟩
theorem sc__law_strips : FnScope B__law_strips.N ["_law_path_here", "_law_width"] (defScope s__law_strips) := ⟨rfl, rfl, rfl, by decide +kernel, rfl, by decide +kernel, by decide +kernel⟩
theorem t__law_strips : fnT B__law_strips (defScope s__law_strips) = true := by decide +kernel
noncomputable def d__law_strips_l1 : En → Sto → SR :=
    (sSeq (sAsg (gTp (gCn (gN 9) (gCn (gN 10) gNl))) (eCall m__law_step (aCons (eVar 7) aNil)))
    (sSeq (sPar2 11 12 (aCons (eK (.int 0)) (aCons (eVar 8) aNil)))
    (sSeq (sIf (tAnd2 (tBl (eOp2 gtD (eVar 6) (eK (.int 0)))) (tBl (eOp2 eqD (eCall m__law_side (aCons (eOp2 ixD (eOp2 ixD (eVar 4) (eOp2 subD (eVar 6) (eK (.int 1)))) (eK (.int 0))) (aCons (eVar 7) aNil))) (eK (.str "left"))))) (sSet 11 (eVar 1)) sNil)
    (sSeq (sIf (tAnd2 (tBl (eOp2 ltD (eOp2 addD (eVar 6) (eK (.int 1))) (eOpN lenF (aCons (eVar 4) aNil)))) (tBl (eOp2 eqD (eCall m__law_side (aCons (eVar 7) (aCons (eOp2 ixD (eOp2 ixD (eVar 4) (eOp2 addD (eVar 6) (eK (.int 1)))) (eK (.int 0))) aNil))) (eK (.str "right"))))) (sSet 12 (eOp2 addD (eVar 8) (eVar 1))) sNil)
    (sSeq (sIf (tBl (eOp2 leD (eVar 12) (eVar 11))) (sRet (eVar 6)) sNil)
    (sSeq (sExp (eM appW (eVar 5) (aCons (eTup (aCons (eOp2 addD (eVar 2) (eOp2 mulD (eVar 11) (eVar 9))) (aCons (eOp2 addD (eVar 3) (eOp2 mulD (eVar 11) (eVar 10))) (aCons (eVar 7) (aCons (eOp2 subD (eVar 12) (eVar 11)) aNil))))) aNil)))
    (sPar2 2 3 (aCons (eOp2 addD (eVar 2) (eOp2 mulD (eVar 8) (eVar 9))) (aCons (eOp2 addD (eVar 3) (eOp2 mulD (eVar 8) (eVar 10))) aNil)))))))))
noncomputable def d__law_strips : En → Sto → SR :=
    (sSeq (sAsg (gTp (gCn (gN 2) (gCn (gN 3) (gCn (gN 4) gNl)))) (eVar 0))
    (sSeq (sSet 5 (eNewL aNil))
    (sSeq (sFor (cEnum (aCons (eVar 4) aNil)) (gTp (gCn (gN 6) (gCn (gTp (gCn (gN 7) (gCn (gN 8) gNl))) gNl))) d__law_strips_l1)
    (sRetF (eVar 5)))))
noncomputable def m__law_strips : List Wv → Sto → Rs Wv := mkF 2 13 d__law_strips
theorem b__law_strips {M : Md} {X : Cx} (T : Hs M) (h__law_side : Has M false 2 "_law_side" ["_law_one", "_law_other"] m__law_side) (h__law_step : Has M false 1 "_law_step" ["_law_way"] m__law_step) (c : Cxt M X B__law_strips 2) : DB X (defBody s__law_strips) d__law_strips :=
    (db_cons (ds_asg (de_var c 0 rfl (by decide)) (dg_tup c (dgs_cons (dg_name c [2, 3, 4] 2 rfl (by decide) (by decide)) (dgs_cons (dg_name c [2, 3, 4] 3 rfl (by decide) (by decide)) (dgs_cons (dg_name c [2, 3, 4] 4 rfl (by decide) (by decide)) (dgs_nil [2, 3, 4])))) (asks_cons (asks_cons (asks_cons asks_nil)))))
    (db_cons (ds_set c 5 rfl (by decide) (de_newl da_nil))
    (db_cons (ds_for c [6, 7, 8] (di_enum c 0 rfl T.z_enumerate (da_cons (de_var c 4 rfl (by decide)) da_nil)) (dg_tup c (dgs_cons (dg_name c [6, 7, 8] 6 rfl (by decide) (by decide)) (dgs_cons (dg_tup c (dgs_cons (dg_name c [6, 7, 8] 7 rfl (by decide) (by decide)) (dgs_cons (dg_name c [6, 7, 8] 8 rfl (by decide) (by decide)) (dgs_nil [6, 7, 8]))) (asks_cons (asks_cons asks_nil))) (dgs_nil [6, 7, 8]))) (asks_cons (asks_cons asks_nil)))
    (db_cons (ds_asg (de_fn c (h__law_step.up (by decide)) 1 rfl (da_cons (de_var c 7 rfl (by decide)) da_nil)) (dg_tup c (dgs_cons (dg_name c [9, 10] 9 rfl (by decide) (by decide)) (dgs_cons (dg_name c [9, 10] 10 rfl (by decide) (by decide)) (dgs_nil [9, 10]))) (asks_cons (asks_cons asks_nil))))
    (db_cons (ds_par2 c 11 12 rfl rfl (by decide) (isLoc c (i := 11) (by decide) rfl) (isLoc c (i := 12) (by decide) rfl) (da_cons de_int (da_cons (de_var c 8 rfl (by decide)) da_nil)) (sw2 c (i := 11) (j := 12) rfl rfl (by decide) (by decide) (by decide +kernel) rfl rfl (by intro _ _ h; cases h) (by intro _ _ h; cases h) rfl rfl))
    (db_cons (ds_if (DW.dt (dw_and (dt_cmp (o_gt c.roomH) (de_var c 6 rfl (by decide)) de_int (nomark _)) (dw_and1 (dt_cmp (o_eq c.roomH) (de_fn c (h__law_side.up (by decide)) 2 rfl (da_cons (de_ix c.roomH (de_ix c.roomH (de_var c 4 rfl (by decide)) (de_bin o_sub (de_var c 6 rfl (by decide)) de_int) (fun _ _ => rfl)) de_int (fun _ _ => rfl)) (da_cons (de_var c 7 rfl (by decide)) da_nil))) de_str (nomark _))))) (db_one (ds_set c 11 rfl (by decide) (de_var c 1 rfl (by decide)))) db_nil)
    (db_cons (ds_if (DW.dt (dw_and (dt_cmp (o_lt c.roomH) (de_bin o_add (de_var c 6 rfl (by decide)) de_int) (de_callB (id := "len") c c_len 3 rfl T.z_len (by decide +kernel) (da_cons (de_var c 4 rfl (by decide)) da_nil)) (nomark _)) (dw_and1 (dt_cmp (o_eq c.roomH) (de_fn c (h__law_side.up (by decide)) 2 rfl (da_cons (de_var c 7 rfl (by decide)) (da_cons (de_ix c.roomH (de_ix c.roomH (de_var c 4 rfl (by decide)) (de_bin o_add (de_var c 6 rfl (by decide)) de_int) (fun _ _ => rfl)) de_int (fun _ _ => rfl)) da_nil))) de_str (nomark _))))) (db_one (ds_set c 12 rfl (by decide) (de_bin o_add (de_var c 8 rfl (by decide)) (de_var c 1 rfl (by decide))))) db_nil)
    (db_cons (ds_if (dt_cmp (o_le c.roomH) (de_var c 12 rfl (by decide)) (de_var c 11 rfl (by decide)) (nomark _)) (db_one (ds_ret (de_var c 6 rfl (by decide)))) db_nil)
    (db_cons (ds_exp (de_append (de_var c 5 rfl (by decide)) (da_cons (de_tup (da_cons (de_bin o_add (de_var c 2 rfl (by decide)) (de_bin o_mul (de_var c 11 rfl (by decide)) (de_var c 9 rfl (by decide)))) (da_cons (de_bin o_add (de_var c 3 rfl (by decide)) (de_bin o_mul (de_var c 11 rfl (by decide)) (de_var c 10 rfl (by decide)))) (da_cons (de_var c 7 rfl (by decide)) (da_cons (de_bin o_sub (de_var c 12 rfl (by decide)) (de_var c 11 rfl (by decide))) da_nil))))) da_nil)))
    (db_one (ds_par2 c 2 3 rfl rfl (by decide) (isLoc c (i := 2) (by decide) rfl) (isLoc c (i := 3) (by decide) rfl) (da_cons (de_bin o_add (de_var c 2 rfl (by decide)) (de_bin o_mul (de_var c 8 rfl (by decide)) (de_var c 9 rfl (by decide)))) (da_cons (de_bin o_add (de_var c 3 rfl (by decide)) (de_bin o_mul (de_var c 8 rfl (by decide)) (de_var c 10 rfl (by decide)))) da_nil)) (sw2 c (i := 2) (j := 3) rfl rfl (by decide) (by decide) (by decide +kernel) rfl rfl (by intro _ _ h; cases h) (by intro _ _ h; cases h) rfl rfl))))))))))
    (db_one (ds_retf (de_var c 5 rfl (by decide)))))))
theorem h__law_strips {M : Md} (T : Hs M) (h__law_side : Has M false 2 "_law_side" ["_law_one", "_law_other"] m__law_side) (h__law_step : Has M false 1 "_law_step" ["_law_way"] m__law_step) (F : TopFn M "_law_strips" s__law_strips ["_law_path_here", "_law_width"]) : Has M false 3 "_law_strips" ["_law_path_here", "_law_width"] m__law_strips := has_of F sc__law_strips t__law_strips rfl rfl (fun X c => b__law_strips T h__law_side h__law_step c)
abbrev s__law_path : Stmt := topS 76
def B__law_path : Tb := ⟨["_law_pen", "_law_mode", "_law_many", "_law_ways", "_law_at", "_law_legs", "_law_turn"], [0, 1, 2, 3, 4, 5, 6], [0, 1, 2, 3, 4, 5, 6], [0, 1, 2, 3, 4, 5, 6], ["_law_draw", "range", "tuple"], [], true, false, none⟩
theorem sc__law_path : FnScope B__law_path.N ["_law_pen"] (defScope s__law_path) := ⟨rfl, rfl, rfl, by decide +kernel, rfl, by decide +kernel, by decide +kernel⟩
theorem t__law_path : fnT B__law_path (defScope s__law_path) = true := by decide +kernel
noncomputable def d__law_path_l1 : En → Sto → SR :=
    (sSeq (sExp (eM appW (eVar 5) (aCons (eTup (aCons (eOp2 ixD (eVar 3) (eVar 4)) (aCons (eOp2 addD (eK (.int 1)) (eCall m__law_draw (aCons (eVar 0) (aCons (eOp2 ixD (eLst (aCons (eK (.int 6)) (aCons (eK (.int 20)) (aCons (eK (.int 60)) aNil)))) (eVar 1)) aNil)))) aNil))) aNil)))
    (sSet 4 (eOp2 modD (eOp2 addD (eOp2 addD (eVar 4) (eK (.int 1))) (eOp2 mulD (eK (.int 2)) (eCall m__law_draw (aCons (eVar 0) (aCons (eK (.int 2)) aNil))))) (eK (.int 4)))))
noncomputable def d__law_path : En → Sto → SR :=
    (sSeq (sPar2 1 2 (aCons (eCall m__law_draw (aCons (eVar 0) (aCons (eK (.int 3)) aNil))) (aCons (eOp2 addD (eK (.int 1)) (eCall m__law_draw (aCons (eVar 0) (aCons (eK (.int 6)) aNil)))) aNil)))
    (sSeq (sSet 3 (eLst (aCons (eK (.str "east")) (aCons (eK (.str "north")) (aCons (eK (.str "west")) (aCons (eK (.str "south")) aNil))))))
    (sSeq (sPar2 4 5 (aCons (eCall m__law_draw (aCons (eVar 0) (aCons (eK (.int 4)) aNil))) (aCons (eNewL aNil) aNil)))
    (sSeq (sFor (cRg1 (aCons (eVar 2) aNil)) (gN 6) d__law_path_l1)
    (sRet (eTup (aCons (eOp2 subD (eCall m__law_draw (aCons (eVar 0) (aCons (eK (.int 61)) aNil))) (eK (.int 30))) (aCons (eOp2 subD (eCall m__law_draw (aCons (eVar 0) (aCons (eK (.int 61)) aNil))) (eK (.int 30))) (aCons (eOpN tupF (aCons (eVar 5) aNil)) aNil)))))))))
noncomputable def m__law_path : List Wv → Sto → Rs Wv := mkF 1 7 d__law_path
theorem b__law_path {M : Md} {X : Cx} (T : Hs M) (h__law_draw : Has M false 2 "_law_draw" ["_law_pen", "_law_many"] m__law_draw) (c : Cxt M X B__law_path 2) : DB X (defBody s__law_path) d__law_path :=
    (db_cons (ds_par2 c 1 2 rfl rfl (by decide) (isLoc c (i := 1) (by decide) rfl) (isLoc c (i := 2) (by decide) rfl) (da_cons (de_fn c (h__law_draw.up (by decide)) 0 rfl (da_cons (de_var c 0 rfl (by decide)) (da_cons de_int da_nil))) (da_cons (de_bin o_add de_int (de_fn c (h__law_draw.up (by decide)) 0 rfl (da_cons (de_var c 0 rfl (by decide)) (da_cons de_int da_nil)))) da_nil)) (sw2 c (i := 1) (j := 2) rfl rfl (by decide) (by decide) (by decide +kernel) rfl rfl (by intro _ _ h; cases h) (by intro _ _ h; cases h) rfl rfl))
    (db_cons (ds_set c 3 rfl (by decide) (de_lst (da_cons de_str (da_cons de_str (da_cons de_str (da_cons de_str da_nil))))))
    (db_cons (ds_par2 c 4 5 rfl rfl (by decide) (isLoc c (i := 4) (by decide) rfl) (isLoc c (i := 5) (by decide) rfl) (da_cons (de_fn c (h__law_draw.up (by decide)) 0 rfl (da_cons (de_var c 0 rfl (by decide)) (da_cons de_int da_nil))) (da_cons (de_newl da_nil) da_nil)) (sw2 c (i := 4) (j := 5) rfl rfl (by decide) (by decide) (by decide +kernel) rfl rfl (by intro _ _ h; cases h) (by intro _ _ h; cases h) rfl rfl))
    (db_cons (ds_for c [6] (di_range1 c 1 rfl T.z_range (da_cons (de_var c 2 rfl (by decide)) da_nil)) (dg_name c [6] 6 rfl (by decide) (by decide))
    (db_cons (ds_exp (de_append (de_var c 5 rfl (by decide)) (da_cons (de_tup (da_cons (de_ix c.roomH (de_var c 3 rfl (by decide)) (de_var c 4 rfl (by decide)) (fun _ _ => rfl)) (da_cons (de_bin o_add de_int (de_fn c (h__law_draw.up (by decide)) 0 rfl (da_cons (de_var c 0 rfl (by decide)) (da_cons (de_ix c.roomH (de_lst (da_cons de_int (da_cons de_int (da_cons de_int da_nil)))) (de_var c 1 rfl (by decide)) (fun _ _ => rfl)) da_nil)))) da_nil))) da_nil)))
    (db_one (ds_set c 4 rfl (by decide) (de_bin o_mod (de_bin o_add (de_bin o_add (de_var c 4 rfl (by decide)) de_int) (de_bin o_mul de_int (de_fn c (h__law_draw.up (by decide)) 0 rfl (da_cons (de_var c 0 rfl (by decide)) (da_cons de_int da_nil))))) de_int)))))
    (db_one (ds_ret (de_tup (da_cons (de_bin o_sub (de_fn c (h__law_draw.up (by decide)) 0 rfl (da_cons (de_var c 0 rfl (by decide)) (da_cons de_int da_nil))) de_int) (da_cons (de_bin o_sub (de_fn c (h__law_draw.up (by decide)) 0 rfl (da_cons (de_var c 0 rfl (by decide)) (da_cons de_int da_nil))) de_int) (da_cons (de_callT (T := "tuple") c c_tup 2 rfl T.z_tuple (by decide +kernel) (da_cons (de_var c 5 rfl (by decide)) da_nil)) da_nil))))))))))
theorem h__law_path {M : Md} (T : Hs M) (h__law_draw : Has M false 2 "_law_draw" ["_law_pen", "_law_many"] m__law_draw) (F : TopFn M "_law_path" s__law_path ["_law_pen"]) : Has M false 3 "_law_path" ["_law_pen"] m__law_path := has_of F sc__law_path t__law_path rfl rfl (fun X c => b__law_path T h__law_draw c)
abbrev s__law_stones : Stmt := topS 80
def B__law_stones : Tb := ⟨["_law_pen", "_law_long", "_law_found", "_law_at", "_law_here"], [0, 1, 2, 3, 4], [0, 1, 2, 3, 4], [0, 1, 2, 3, 4], ["_law_draw", "len", "min", "tuple"], [], true, false, none⟩
theorem sc__law_stones : FnScope B__law_stones.N ["_law_pen", "_law_long"] (defScope s__law_stones) := ⟨rfl, rfl, rfl, by decide +kernel, rfl, by decide +kernel, by decide +kernel⟩
theorem t__law_stones : fnT B__law_stones (defScope s__law_stones) = true := by decide +kernel
noncomputable def d__law_stones : En → Sto → SR :=
    (sSeq (sPar2 2 3 (aCons (eNewL aNil) (aCons (eOp2 mulD (eCall m__law_draw (aCons (eVar 0) (aCons (eK (.int 3)) aNil))) (eCall m__law_draw (aCons (eVar 0) (aCons (eK (.int 2)) aNil)))) aNil)))
    (sSeq (sWh 100000 (tAnd2 (tBl (eOp2 ltD (eVar 3) (eVar 1))) (tBl (eOp2 ltD (eOpN lenF (aCons (eVar 2) aNil)) (eK (.int 12))))) (sWp [4] (sSeq (sSet 4 (eOp2 addD (eK (.int 1)) (eCall m__law_draw (aCons (eVar 0) (aCons (eOpN min2F (aCons (eK (.int 20)) (aCons (eOp2 subD (eVar 1) (eVar 3)) aNil))) aNil)))))
    (sSeq (sExp (eM appW (eVar 2) (aCons (eTup (aCons (eVar 3) (aCons (eVar 4) aNil))) aNil)))
    (sSet 3 (eOp2 addD (eOp2 addD (eVar 3) (eVar 4)) (eOp2 ixD (eLst (aCons (eK (.int 0)) (aCons (eK (.int 1)) (aCons (eK (.int 2)) (aCons (eK (.int 9)) aNil))))) (eCall m__law_draw (aCons (eVar 0) (aCons (eK (.int 4)) aNil))))))))))
    (sRet (eIf (tBl (eOp2 neD (eVar 2) (eLst aNil))) (eOpN tupF (aCons (eVar 2) aNil)) (eTup (aCons (eTup (aCons (eK (.int 0)) (aCons (eK (.int 1)) aNil))) aNil))))))
noncomputable def m__law_stones : List Wv → Sto → Rs Wv := mkF 2 5 d__law_stones
theorem b__law_stones {M : Md} {X : Cx} (T : Hs M) (h__law_draw : Has M false 2 "_law_draw" ["_law_pen", "_law_many"] m__law_draw) (c : Cxt M X B__law_stones 2) : DB X (defBody s__law_stones) d__law_stones :=
    (db_cons (ds_par2 c 2 3 rfl rfl (by decide) (isLoc c (i := 2) (by decide) rfl) (isLoc c (i := 3) (by decide) rfl) (da_cons (de_newl da_nil) (da_cons (de_bin o_mul (de_fn c (h__law_draw.up (by decide)) 0 rfl (da_cons (de_var c 0 rfl (by decide)) (da_cons de_int da_nil))) (de_fn c (h__law_draw.up (by decide)) 0 rfl (da_cons (de_var c 0 rfl (by decide)) (da_cons de_int da_nil)))) da_nil)) (sw2 c (i := 2) (j := 3) rfl rfl (by decide) (by decide) (by decide +kernel) rfl rfl (by intro _ _ h; cases h) (by intro _ _ h; cases h) rfl rfl))
    (db_cons (ds_wh c 100000 (DW.dt (dw_and (dt_cmp (o_lt c.roomH) (de_var c 3 rfl (by decide)) (de_var c 1 rfl (by decide)) (nomark _)) (dw_and1 (dt_cmp (o_lt c.roomH) (de_callB (id := "len") c c_len 1 rfl T.z_len (by decide +kernel) (da_cons (de_var c 2 rfl (by decide)) da_nil)) de_int (nomark _))))) (db_wp [4] (db_cons (ds_set c 4 rfl (by decide) (de_bin o_add de_int (de_fn c (h__law_draw.up (by decide)) 0 rfl (da_cons (de_var c 0 rfl (by decide)) (da_cons (de_callB (id := "min") c (c_min2 c.calm) 2 rfl T.z_min (by decide +kernel) (da_cons de_int (da_cons (de_bin o_sub (de_var c 1 rfl (by decide)) (de_var c 3 rfl (by decide))) da_nil))) da_nil)))))
    (db_cons (ds_exp (de_append (de_var c 2 rfl (by decide)) (da_cons (de_tup (da_cons (de_var c 3 rfl (by decide)) (da_cons (de_var c 4 rfl (by decide)) da_nil))) da_nil)))
    (db_one (ds_set c 3 rfl (by decide) (de_bin o_add (de_bin o_add (de_var c 3 rfl (by decide)) (de_var c 4 rfl (by decide))) (de_ix c.roomH (de_lst (da_cons de_int (da_cons de_int (da_cons de_int (da_cons de_int da_nil))))) (de_fn c (h__law_draw.up (by decide)) 0 rfl (da_cons (de_var c 0 rfl (by decide)) (da_cons de_int da_nil))) (fun _ _ => rfl)))))))))
    (db_one (ds_ret (de_if (dt_cmp (o_ne c.roomH) (de_var c 2 rfl (by decide)) (de_lst da_nil) (nomark _)) (de_callT (T := "tuple") c c_tup 3 rfl T.z_tuple (by decide +kernel) (da_cons (de_var c 2 rfl (by decide)) da_nil)) (de_tup (da_cons (de_tup (da_cons de_int (da_cons de_int da_nil))) da_nil)))))))
theorem h__law_stones {M : Md} (T : Hs M) (h__law_draw : Has M false 2 "_law_draw" ["_law_pen", "_law_many"] m__law_draw) (F : TopFn M "_law_stones" s__law_stones ["_law_pen", "_law_long"]) : Has M false 3 "_law_stones" ["_law_pen", "_law_long"] m__law_stones := has_of F sc__law_stones t__law_stones rfl rfl (fun X c => b__law_stones T h__law_draw c)
abbrev s__law_row : Stmt := topS 81
def B__law_row : Tb := ⟨["_law_pen", "_law_path_here", "_law_width", "_law_mode", "_law_some", ".0", "_law_strip", "_law_way", "_law_long"], [0, 1, 2, 3, 4], [0, 1, 2, 3, 4], [1, 2, 3, 4], ["_law_path", "_law_draw", "tuple", "_law_strips", "isinstance", "int"], ["_law_pen"], true, false, none⟩
theorem sc__law_row : FnScope B__law_row.N ["_law_pen"] (defScope s__law_row) := ⟨rfl, rfl, rfl, by decide +kernel, rfl, by decide +kernel, by decide +kernel⟩
theorem t__law_row : fnT B__law_row (defScope s__law_row) = true := by decide +kernel
noncomputable def d__law_row : En → Sto → SR :=
    (sSeq (sPar3 1 2 3 (aCons (eCall m__law_path (aCons (eVar 0) aNil)) (aCons (eOp2 addD (eK (.int 1)) (eCall m__law_draw (aCons (eVar 0) (aCons (eK (.int 4)) aNil)))) (aCons (eCall m__law_draw (aCons (eVar 0) (aCons (eK (.int 4)) aNil))) aNil))))
    (sSeq (sIf (tBl (eOp2 eqD (eVar 3) (eK (.int 0)))) (sSet 2 (eOp2 addD (eK (.int 1)) (eCall m__law_draw (aCons (eVar 0) (aCons (eK (.int 9)) aNil))))) (sSet 1 (eTup (aCons (eOp2 divD (eOp2 ixD (eVar 1) (eK (.int 0))) (eK (.int 6))) (aCons (eOp2 divD (eOp2 ixD (eVar 1) (eK (.int 1))) (eK (.int 6))) (aCons (eOpN tupF (aCons (eLc (cSeq (eSlice (eOp2 ixD (eVar 1) (eK (.int 2))) pNo (pSome (eK (.int 4))))) (gTp (gCn (gN 7) (gCn (gN 8) gNl))) tYs (eTup (aCons (eVar 7) (aCons (eOp2 addD (eK (.int 1)) (eOp2 modD (eVar 8) (eK (.int 14)))) aNil))) [5, 7, 8]) aNil)) aNil))))))
    (sSeq (sSet 4 (eCall m__law_strips (aCons (eVar 1) (aCons (eVar 2) aNil))))
    (sSeq (sIf (tTru (eOp1 (isaD "int") (eVar 4))) (sSeq (sSet 1 (eOp2 addD (eSlice (eVar 1) pNo (pSome (eK (.int 2)))) (eTup (aCons (eSlice (eOp2 ixD (eVar 1) (eK (.int 2))) pNo (pSome (eK (.int 1)))) aNil))))
    (sSet 4 (eCall m__law_strips (aCons (eVar 1) (aCons (eVar 2) aNil))))) sNil)
    (sRet (eTup (aCons (eVar 1) (aCons (eVar 2) (aCons (eOpN tupF (aCons (eLc (cSeq (eVar 4)) (gN 6) tYs (eCall m__law_stones (aCons (eVar 0) (aCons (eOp2 ixD (eVar 6) (eK (.int 3))) aNil))) [5, 6]) aNil)) aNil)))))))))
noncomputable def m__law_row : List Wv → Sto → Rs Wv := mkF 1 9 d__law_row
theorem b__law_row {M : Md} {X : Cx} (T : Hs M) (h__law_draw : Has M false 2 "_law_draw" ["_law_pen", "_law_many"] m__law_draw) (h__law_path : Has M false 3 "_law_path" ["_law_pen"] m__law_path) (h__law_stones : Has M false 3 "_law_stones" ["_law_pen", "_law_long"] m__law_stones) (h__law_strips : Has M false 3 "_law_strips" ["_law_path_here", "_law_width"] m__law_strips) (c : Cxt M X B__law_row 3) : DB X (defBody s__law_row) d__law_row :=
    (db_cons (ds_par3 c 1 2 3 rfl rfl rfl (by decide) (by decide) (by decide) (isLoc c (i := 1) (by decide) rfl) (isLoc c (i := 2) (by decide) rfl) (isLoc c (i := 3) (by decide) rfl) (da_cons (de_fn c (h__law_path.up (by decide)) 0 rfl (da_cons (de_var c 0 rfl (by decide)) da_nil)) (da_cons (de_bin o_add de_int (de_fn c (h__law_draw.up (by decide)) 1 rfl (da_cons (de_var c 0 rfl (by decide)) (da_cons de_int da_nil)))) (da_cons (de_fn c (h__law_draw.up (by decide)) 1 rfl (da_cons (de_var c 0 rfl (by decide)) (da_cons de_int da_nil))) da_nil))) (sw3 c (i := 1) (j := 2) (l := 3) rfl rfl rfl (by decide) (by decide) (by decide) (by decide +kernel) rfl rfl rfl (by intro _ _ h; cases h) (by intro _ _ h; cases h) (by intro _ _ h; cases h) rfl rfl))
    (db_cons (ds_if (dt_cmp (o_eq c.roomH) (de_var c 3 rfl (by decide)) de_int (nomark _)) (db_one (ds_set c 2 rfl (by decide) (de_bin o_add de_int (de_fn c (h__law_draw.up (by decide)) 1 rfl (da_cons (de_var c 0 rfl (by decide)) (da_cons de_int da_nil)))))) (db_one (ds_set c 1 rfl (by decide) (de_tup (da_cons (de_bin o_div (de_ix c.roomH (de_var c 1 rfl (by decide)) de_int (fun _ _ => rfl)) de_int) (da_cons (de_bin o_div (de_ix c.roomH (de_var c 1 rfl (by decide)) de_int (fun _ _ => rfl)) de_int) (da_cons (de_callT (T := "tuple") c c_tup 2 rfl T.z_tuple (by decide +kernel) (da_cons (de_lc c (lc_ok c [(".0", 5), ("_law_way", 7), ("_law_long", 8)] [5, 7, 8] [5, 7, 8] [] [] (by decide +kernel) (di_seq (de_slice (de_ix c.roomH (de_var c 1 rfl (by decide)) de_int (fun _ _ => rfl)) do_no (do_some de_int))) (by decide) (fun _ c15 => (dg_tup c15 (dgs_cons (dg_name c15 [5, 7, 8] 7 rfl (by decide) (by decide)) (dgs_cons (dg_name c15 [5, 7, 8] 8 rfl (by decide) (by decide)) (dgs_nil [5, 7, 8]))) (asks_cons (asks_cons asks_nil)))) (fun _ c15 => dts_nil) (fun _ c15 => (de_tup (da_cons (de_var c15 7 rfl (by decide)) (da_cons (de_bin o_add de_int (de_bin o_mod (de_var c15 8 rfl (by decide)) de_int)) da_nil)))))) da_nil)) da_nil)))))))
    (db_cons (ds_set c 4 rfl (by decide) (de_fn c (h__law_strips.up (by decide)) 3 rfl (da_cons (de_var c 1 rfl (by decide)) (da_cons (de_var c 2 rfl (by decide)) da_nil))))
    (db_cons (ds_if (dt_val (de_isa c 4 5 rfl T.z_isinstance rfl T.z_int (by decide +kernel) (de_var c 4 rfl (by decide)))) (db_cons (ds_set c 1 rfl (by decide) (de_bin o_add (de_slice (de_var c 1 rfl (by decide)) do_no (do_some de_int)) (de_tup (da_cons (de_slice (de_ix c.roomH (de_var c 1 rfl (by decide)) de_int (fun _ _ => rfl)) do_no (do_some de_int)) da_nil))))
    (db_one (ds_set c 4 rfl (by decide) (de_fn c (h__law_strips.up (by decide)) 3 rfl (da_cons (de_var c 1 rfl (by decide)) (da_cons (de_var c 2 rfl (by decide)) da_nil)))))) db_nil)
    (db_one (ds_ret (de_tup (da_cons (de_var c 1 rfl (by decide)) (da_cons (de_var c 2 rfl (by decide)) (da_cons (de_callT (T := "tuple") c c_tup 2 rfl T.z_tuple (by decide +kernel) (da_cons (de_lc c (lc_ok c [(".0", 5), ("_law_strip", 6)] [5, 6, 0] [5, 6] ["_law_stones"] ["_law_pen"] (by decide +kernel) (di_seq (de_var c 4 rfl (by decide))) (by decide) (fun _ c16 => (dg_name c16 [5, 6] 6 rfl (by decide) (by decide))) (fun _ c16 => dts_nil) (fun _ c16 => (de_fn c16 (h__law_stones.up (by decide)) 0 rfl (da_cons (de_var c16 0 rfl (by decide)) (da_cons (de_ix c16.roomH (de_var c16 6 rfl (by decide)) de_int (fun _ _ => rfl)) da_nil)))))) da_nil)) da_nil))))))))))
theorem h__law_row {M : Md} (T : Hs M) (h__law_draw : Has M false 2 "_law_draw" ["_law_pen", "_law_many"] m__law_draw) (h__law_path : Has M false 3 "_law_path" ["_law_pen"] m__law_path) (h__law_stones : Has M false 3 "_law_stones" ["_law_pen", "_law_long"] m__law_stones) (h__law_strips : Has M false 3 "_law_strips" ["_law_path_here", "_law_width"] m__law_strips) (F : TopFn M "_law_row" s__law_row ["_law_pen"]) : Has M false 4 "_law_row" ["_law_pen"] m__law_row := has_of F sc__law_row t__law_row rfl rfl (fun X c => b__law_row T h__law_draw h__law_path h__law_stones h__law_strips c)
abbrev s_gap_of : Stmt := topS 62
def B_gap_of : Tb := ⟨["one", "other"], [0, 1], [0, 1], [0, 1], ["max"], [], true, false, none⟩
theorem sc_gap_of : FnScope B_gap_of.N ["one", "other"] (defScope s_gap_of) := ⟨rfl, rfl, rfl, by decide +kernel, rfl, by decide +kernel, by decide +kernel⟩
theorem t_gap_of : fnT B_gap_of (defScope s_gap_of) = true := by decide +kernel
noncomputable def d_gap_of : En → Sto → SR :=
    (sRet (eOpN maxNF (aCons (eK (.int 0)) (aCons (eOp2 subD (eOp2 ixD (eVar 0) (eK (.int 0))) (eOp2 ixD (eVar 1) (eK (.int 2)))) (aCons (eOp2 subD (eOp2 ixD (eVar 1) (eK (.int 0))) (eOp2 ixD (eVar 0) (eK (.int 2)))) (aCons (eOp2 subD (eOp2 ixD (eVar 0) (eK (.int 1))) (eOp2 ixD (eVar 1) (eK (.int 3)))) (aCons (eOp2 subD (eOp2 ixD (eVar 1) (eK (.int 1))) (eOp2 ixD (eVar 0) (eK (.int 3)))) aNil)))))))
noncomputable def m_gap_of : List Wv → Sto → Rs Wv := mkF 2 2 d_gap_of
theorem b_gap_of {M : Md} {X : Cx} (T : Hs M)  (c : Cxt M X B_gap_of 0) : DB X (defBody s_gap_of) d_gap_of :=
    (db_one (ds_ret (de_callB (id := "max") c (c_maxN c.calm) 0 rfl T.z_max (by decide +kernel) (da_cons de_int (da_cons (de_bin o_sub (de_ix c.roomH (de_var c 0 rfl (by decide)) de_int (fun _ _ => rfl)) (de_ix c.roomH (de_var c 1 rfl (by decide)) de_int (fun _ _ => rfl))) (da_cons (de_bin o_sub (de_ix c.roomH (de_var c 1 rfl (by decide)) de_int (fun _ _ => rfl)) (de_ix c.roomH (de_var c 0 rfl (by decide)) de_int (fun _ _ => rfl))) (da_cons (de_bin o_sub (de_ix c.roomH (de_var c 0 rfl (by decide)) de_int (fun _ _ => rfl)) (de_ix c.roomH (de_var c 1 rfl (by decide)) de_int (fun _ _ => rfl))) (da_cons (de_bin o_sub (de_ix c.roomH (de_var c 1 rfl (by decide)) de_int (fun _ _ => rfl)) (de_ix c.roomH (de_var c 0 rfl (by decide)) de_int (fun _ _ => rfl))) da_nil))))))))
theorem h_gap_of {M : Md} (T : Hs M)  (F : TopFn M "gap_of" s_gap_of ["one", "other"]) : Has M false 1 "gap_of" ["one", "other"] m_gap_of := has_of F sc_gap_of t_gap_of rfl rfl (fun X c => b_gap_of T  c)
abbrev s_apart : Stmt := topS 63
def B_apart : Tb := ⟨["one", "other", "found", "here", ".0", "there"], [0, 1, 2, 3], [0, 1, 2, 3], [0, 1, 2], ["need_row", "rectangles", "min"], ["here"], true, false, none⟩
theorem sc_apart : FnScope B_apart.N ["one", "other"] (defScope s_apart) := ⟨rfl, rfl, rfl, by decide +kernel, rfl, by decide +kernel, by decide +kernel⟩
theorem t_apart : fnT B_apart (defScope s_apart) = true := by decide +kernel
noncomputable def d_apart_l1 : En → Sto → SR :=
    (sWp [3] (sExp (eM extW (eVar 2) (aCons (eLc (cSeq (eCall m_rectangles (aCons (eVar 1) aNil))) (gN 5) tYs (eCall m_gap_of (aCons (eVar 3) (aCons (eVar 5) aNil))) [4, 5]) aNil))))
noncomputable def d_apart : En → Sto → SR :=
    (sSeq (sExp (eCall m_need_row (aCons (eVar 0) aNil)))
    (sSeq (sExp (eCall m_need_row (aCons (eVar 1) aNil)))
    (sSeq (sSet 2 (eNewL aNil))
    (sSeq (sFor (cSeq (eCall m_rectangles (aCons (eVar 0) aNil))) (gN 3) d_apart_l1)
    (sRet (eOpN (bestF PySem.W.minD) (aCons (eVar 2) aNil)))))))
noncomputable def m_apart : List Wv → Sto → Rs Wv := mkF 2 6 d_apart
theorem b_apart {M : Md} {X : Cx} (T : Hs M) (h_gap_of : Has M false 1 "gap_of" ["one", "other"] m_gap_of) (h_need_row : Has M false 7 "need_row" ["row"] m_need_row) (h_rectangles : Has M false 4 "rectangles" ["row"] m_rectangles) (c : Cxt M X B_apart 7) : DB X (defBody s_apart) d_apart :=
    (db_cons (ds_exp (de_fn c (h_need_row.up (by decide)) 0 rfl (da_cons (de_var c 0 rfl (by decide)) da_nil)))
    (db_cons (ds_exp (de_fn c (h_need_row.up (by decide)) 0 rfl (da_cons (de_var c 1 rfl (by decide)) da_nil)))
    (db_cons (ds_set c 2 rfl (by decide) (de_newl da_nil))
    (db_cons (ds_for c [3] (di_seq (de_fn c (h_rectangles.up (by decide)) 1 rfl (da_cons (de_var c 0 rfl (by decide)) da_nil))) (dg_name c [3] 3 rfl (by decide) (by decide))
    (db_wp [3] (db_one (ds_exp (de_extend (de_var c 2 rfl (by decide)) (da_cons (de_lc c (lc_ok c [(".0", 4), ("there", 5)] [4, 5, 3] [4, 5] ["gap_of"] ["here"] (by decide +kernel) (di_seq (de_fn c (h_rectangles.up (by decide)) 1 rfl (da_cons (de_var c 1 rfl (by decide)) da_nil))) (by decide) (fun _ c17 => (dg_name c17 [4, 5] 5 rfl (by decide) (by decide))) (fun _ c17 => dts_nil) (fun _ c17 => (de_fn c17 (h_gap_of.up (by decide)) 0 rfl (da_cons (de_var c17 3 rfl (by decide)) (da_cons (de_var c17 5 rfl (by decide)) da_nil)))))) da_nil))))))
    (db_one (ds_ret (de_callB (id := "min") c (c_min1 c.calm c.roomH) 2 rfl T.z_min (by decide +kernel) (da_cons (de_var c 2 rfl (by decide)) da_nil))))))))
theorem h_apart {M : Md} (T : Hs M) (h_gap_of : Has M false 1 "gap_of" ["one", "other"] m_gap_of) (h_need_row : Has M false 7 "need_row" ["row"] m_need_row) (h_rectangles : Has M false 4 "rectangles" ["row"] m_rectangles) (F : TopFn M "apart" s_apart ["one", "other"]) : Has M false 8 "apart" ["one", "other"] m_apart := has_of F sc_apart t_apart rfl rfl (fun X c => b_apart T h_gap_of h_need_row h_rectangles c)
abbrev s_need_path : Stmt := topS 23
def B_need_path : Tb := ⟨["path"], [0], [0], [0], ["is_path", "NoPath"], [], true, false, none⟩
theorem sc_need_path : FnScope B_need_path.N ["path"] (defScope s_need_path) := ⟨rfl, rfl, rfl, by decide +kernel, rfl, by decide +kernel, by decide +kernel⟩
theorem t_need_path : fnT B_need_path (defScope s_need_path) = true := by decide +kernel
noncomputable def d_need_path : En → Sto → SR :=
    (sIf (tNot1 (tTru (eCall m_is_path (aCons (eVar 0) aNil)))) sNo sNil)
noncomputable def m_need_path : List Wv → Sto → Rs Wv := mkF 1 1 d_need_path
theorem b_need_path {M : Md} {X : Cx} (T : Hs M) (h_is_path : Has M false 4 "is_path" ["thing"] m_is_path) (c : Cxt M X B_need_path 4) : DB X (defBody s_need_path) d_need_path :=
    (db_one (ds_if (dt_not (dt_val (de_fn c (h_is_path.up (by decide)) 0 rfl (da_cons (de_var c 0 rfl (by decide)) da_nil)))) (db_one ds_no) db_nil))
theorem h_need_path {M : Md} (T : Hs M) (h_is_path : Has M false 4 "is_path" ["thing"] m_is_path) (F : TopFn M "need_path" s_need_path ["path"]) : Has M false 5 "need_path" ["path"] m_need_path := has_of F sc_need_path t_need_path rfl rfl (fun X c => b_need_path T h_is_path c)
abbrev s_need_width : Stmt := topS 24
def B_need_width : Tb := ⟨["width"], [0], [0], [0], ["is_from_to", "MOST_WIDTH", "NoWidth"], [], true, false, none⟩
theorem sc_need_width : FnScope B_need_width.N ["width"] (defScope s_need_width) := ⟨rfl, rfl, rfl, by decide +kernel, rfl, by decide +kernel, by decide +kernel⟩
theorem t_need_width : fnT B_need_width (defScope s_need_width) = true := by decide +kernel
noncomputable def d_need_width : En → Sto → SR :=
    (sIf (tNot1 (tTru (eCall m_is_from_to (aCons (eVar 0) (aCons (eK (.int 1)) (aCons (eK w_MOST_WIDTH) aNil)))))) sNo sNil)
noncomputable def m_need_width : List Wv → Sto → Rs Wv := mkF 1 1 d_need_width
theorem b_need_width {M : Md} {X : Cx} (T : Hs M) (h_is_from_to : Has M false 2 "is_from_to" ["thing", "least", "most"] m_is_from_to) (c : Cxt M X B_need_width 2) : DB X (defBody s_need_width) d_need_width :=
    (db_one (ds_if (dt_not (dt_val (de_fn c (h_is_from_to.up (by decide)) 0 rfl (da_cons (de_var c 0 rfl (by decide)) (da_cons de_int (da_cons (q_MOST_WIDTH T c 1 rfl) da_nil)))))) (db_one ds_no) db_nil))
theorem h_need_width {M : Md} (T : Hs M) (h_is_from_to : Has M false 2 "is_from_to" ["thing", "least", "most"] m_is_from_to) (F : TopFn M "need_width" s_need_width ["width"]) : Has M false 3 "need_width" ["width"] m_need_width := has_of F sc_need_width t_need_width rfl rfl (fun X c => b_need_width T h_is_from_to c)
abbrev s_strips : Stmt := topS 29
def B_strips : Tb := ⟨["path", "width"], [0, 1], [0, 1], [0, 1], ["need_path", "need_width", "strips_by"], [], true, false, none⟩
theorem sc_strips : FnScope B_strips.N ["path", "width"] (defScope s_strips) := ⟨rfl, rfl, rfl, by decide +kernel, rfl, by decide +kernel, by decide +kernel⟩
theorem t_strips : fnT B_strips (defScope s_strips) = true := by decide +kernel
noncomputable def d_strips : En → Sto → SR :=
    (sSeq (sExp (eCall m_need_path (aCons (eVar 0) aNil)))
    (sSeq (sExp (eCall m_need_width (aCons (eVar 1) aNil)))
    (sRet (eCall m_strips_by (aCons (eVar 0) (aCons (eVar 1) aNil))))))
noncomputable def m_strips : List Wv → Sto → Rs Wv := mkF 2 2 d_strips
theorem b_strips {M : Md} {X : Cx} (T : Hs M) (h_need_path : Has M false 5 "need_path" ["path"] m_need_path) (h_need_width : Has M false 3 "need_width" ["width"] m_need_width) (h_strips_by : Has M false 3 "strips_by" ["path", "width"] m_strips_by) (c : Cxt M X B_strips 5) : DB X (defBody s_strips) d_strips :=
    (db_cons (ds_exp (de_fn c (h_need_path.up (by decide)) 0 rfl (da_cons (de_var c 0 rfl (by decide)) da_nil)))
    (db_cons (ds_exp (de_fn c (h_need_width.up (by decide)) 1 rfl (da_cons (de_var c 1 rfl (by decide)) da_nil)))
    (db_one (ds_ret (de_fn c (h_strips_by.up (by decide)) 2 rfl (da_cons (de_var c 0 rfl (by decide)) (da_cons (de_var c 1 rfl (by decide)) da_nil)))))))
theorem h_strips {M : Md} (T : Hs M) (h_need_path : Has M false 5 "need_path" ["path"] m_need_path) (h_need_width : Has M false 3 "need_width" ["width"] m_need_width) (h_strips_by : Has M false 3 "strips_by" ["path", "width"] m_strips_by) (F : TopFn M "strips" s_strips ["path", "width"]) : Has M false 6 "strips" ["path", "width"] m_strips := has_of F sc_strips t_strips rfl rfl (fun X c => b_strips T h_need_path h_need_width h_strips_by c)
abbrev s_rect_of : Stmt := topS 31
def B_rect_of : Tb := ⟨["path", "width", "strip", "start", "end", "here"], [0, 1, 2, 3, 4, 5], [0, 1, 2, 3, 4, 5], [0, 1, 2, 3, 4, 5], ["need_path", "need_width", "is_from_to", "len", "NoNumber", "strips_by", "NoPlace", "rectangle"], [], true, false, none⟩
theorem sc_rect_of : FnScope B_rect_of.N ["path", "width", "strip", "start", "end"] (defScope s_rect_of) := ⟨rfl, rfl, rfl, by decide +kernel, rfl, by decide +kernel, by decide +kernel⟩
theorem t_rect_of : fnT B_rect_of (defScope s_rect_of) = true := by decide +kernel
noncomputable def d_rect_of : En → Sto → SR :=
    (sSeq (sExp (eCall m_need_path (aCons (eVar 0) aNil)))
    (sSeq (sExp (eCall m_need_width (aCons (eVar 1) aNil)))
    (sSeq (sIf (tNot1 (tTru (eCall m_is_from_to (aCons (eVar 2) (aCons (eK (.int 0)) (aCons (eOp2 subD (eOpN lenF (aCons (eOp2 ixD (eVar 0) (eK (.int 2))) aNil)) (eK (.int 1))) aNil)))))) sNo sNil)
    (sSeq (sSet 5 (eOp2 ixD (eCall m_strips_by (aCons (eVar 0) (aCons (eVar 1) aNil))) (eVar 2)))
    (sSeq (sIf (tOr2 (tNot1 (tTru (eCall m_is_from_to (aCons (eVar 3) (aCons (eK (.int 0)) (aCons (eOp2 subD (eOp2 ixD (eVar 5) (eK (.int 3))) (eK (.int 1))) aNil)))))) (tNot1 (tTru (eCall m_is_from_to (aCons (eVar 4) (aCons (eOp2 addD (eVar 3) (eK (.int 1))) (aCons (eOp2 ixD (eVar 5) (eK (.int 3))) aNil))))))) sNo sNil)
    (sRet (eCall m_rectangle (aCons (eVar 5) (aCons (eVar 1) (aCons (eVar 3) (aCons (eVar 4) aNil)))))))))))
noncomputable def m_rect_of : List Wv → Sto → Rs Wv := mkF 5 6 d_rect_of
theorem b_rect_of {M : Md} {X : Cx} (T : Hs M) (h_is_from_to : Has M false 2 "is_from_to" ["thing", "least", "most"] m_is_from_to) (h_need_path : Has M false 5 "need_path" ["path"] m_need_path) (h_need_width : Has M false 3 "need_width" ["width"] m_need_width) (h_rectangle : Has M false 1 "rectangle" ["strip", "width", "start", "end"] m_rectangle) (h_strips_by : Has M false 3 "strips_by" ["path", "width"] m_strips_by) (c : Cxt M X B_rect_of 5) : DB X (defBody s_rect_of) d_rect_of :=
    (db_cons (ds_exp (de_fn c (h_need_path.up (by decide)) 0 rfl (da_cons (de_var c 0 rfl (by decide)) da_nil)))
    (db_cons (ds_exp (de_fn c (h_need_width.up (by decide)) 1 rfl (da_cons (de_var c 1 rfl (by decide)) da_nil)))
    (db_cons (ds_if (dt_not (dt_val (de_fn c (h_is_from_to.up (by decide)) 2 rfl (da_cons (de_var c 2 rfl (by decide)) (da_cons de_int (da_cons (de_bin o_sub (de_callB (id := "len") c c_len 3 rfl T.z_len (by decide +kernel) (da_cons (de_ix c.roomH (de_var c 0 rfl (by decide)) de_int (fun _ _ => rfl)) da_nil)) de_int) da_nil)))))) (db_one ds_no) db_nil)
    (db_cons (ds_set c 5 rfl (by decide) (de_ix c.roomH (de_fn c (h_strips_by.up (by decide)) 5 rfl (da_cons (de_var c 0 rfl (by decide)) (da_cons (de_var c 1 rfl (by decide)) da_nil))) (de_var c 2 rfl (by decide)) (fun _ _ => rfl)))
    (db_cons (ds_if (DW.dt (dw_or (dt_not (dt_val (de_fn c (h_is_from_to.up (by decide)) 2 rfl (da_cons (de_var c 3 rfl (by decide)) (da_cons de_int (da_cons (de_bin o_sub (de_ix c.roomH (de_var c 5 rfl (by decide)) de_int (fun _ _ => rfl)) de_int) da_nil)))))) (dw_or1 (dt_not (dt_val (de_fn c (h_is_from_to.up (by decide)) 2 rfl (da_cons (de_var c 4 rfl (by decide)) (da_cons (de_bin o_add (de_var c 3 rfl (by decide)) de_int) (da_cons (de_ix c.roomH (de_var c 5 rfl (by decide)) de_int (fun _ _ => rfl)) da_nil))))))))) (db_one ds_no) db_nil)
    (db_one (ds_ret (de_fn c (h_rectangle.up (by decide)) 7 rfl (da_cons (de_var c 5 rfl (by decide)) (da_cons (de_var c 1 rfl (by decide)) (da_cons (de_var c 3 rfl (by decide)) (da_cons (de_var c 4 rfl (by decide)) da_nil))))))))))))
theorem h_rect_of {M : Md} (T : Hs M) (h_is_from_to : Has M false 2 "is_from_to" ["thing", "least", "most"] m_is_from_to) (h_need_path : Has M false 5 "need_path" ["path"] m_need_path) (h_need_width : Has M false 3 "need_width" ["width"] m_need_width) (h_rectangle : Has M false 1 "rectangle" ["strip", "width", "start", "end"] m_rectangle) (h_strips_by : Has M false 3 "strips_by" ["path", "width"] m_strips_by) (F : TopFn M "rect_of" s_rect_of ["path", "width", "strip", "start", "end"]) : Has M false 6 "rect_of" ["path", "width", "strip", "start", "end"] m_rect_of := has_of F sc_rect_of t_rect_of rfl rfl (fun X c => b_rect_of T h_is_from_to h_need_path h_need_width h_rectangle h_strips_by c)
abbrev s_are_longs : Stmt := topS 39
def B_are_longs : Tb := ⟨["thing", ".0", "one"], [0], [0], [0], ["isinstance", "tuple", "len", "MOST_STONES", "all"], [], true, false, none⟩
theorem sc_are_longs : FnScope B_are_longs.N ["thing"] (defScope s_are_longs) := ⟨rfl, rfl, rfl, by decide +kernel, rfl, by decide +kernel, by decide +kernel⟩
theorem t_are_longs : fnT B_are_longs (defScope s_are_longs) = true := by decide +kernel
noncomputable def d_are_longs : En → Sto → SR :=
    (sSeq (sIf (tOr2 (tNot1 (tTru (eOp1 (isaD "tuple") (eVar 0)))) (tNot1 (tBl (eChain leD leD (eK (.int 1)) (eOpN lenF (aCons (eVar 0) aNil)) (eK w_MOST_STONES))))) (sRet (eK (.bool false))) sNil)
    (sRet (eOpN allF (aCons (eLc (cSeq (eVar 0)) (gN 2) tYs (eCall m_is_from_to (aCons (eVar 2) (aCons (eK (.int 1)) (aCons (eK w_MOST_STONE) aNil)))) [1, 2]) aNil))))
noncomputable def m_are_longs : List Wv → Sto → Rs Wv := mkF 1 3 d_are_longs
theorem b_are_longs {M : Md} {X : Cx} (T : Hs M) (h_is_from_to : Has M false 2 "is_from_to" ["thing", "least", "most"] m_is_from_to) (c : Cxt M X B_are_longs 2) : DB X (defBody s_are_longs) d_are_longs :=
    (db_cons (ds_if (DW.dt (dw_or (dt_not (dt_val (de_isa c 0 1 rfl T.z_isinstance rfl T.z_tuple (by decide +kernel) (de_var c 0 rfl (by decide))))) (dw_or1 (dt_not (dt_chain (o_le c.roomH) (o_le c.roomH) de_int (de_callB (id := "len") c c_len 2 rfl T.z_len (by decide +kernel) (da_cons (de_var c 0 rfl (by decide)) da_nil)) (q_MOST_STONES T c 3 rfl)))))) (db_one (ds_ret de_bl)) db_nil)
    (db_one (ds_ret (de_callB (id := "all") c (c_all c.calm) 4 rfl T.z_all (by decide +kernel) (da_cons (de_lc c (lc_ok c [(".0", 1), ("one", 2)] [1, 2] [1, 2] ["is_from_to", "MOST_STONE"] [] (by decide +kernel) (di_seq (de_var c 0 rfl (by decide))) (by decide) (fun _ c18 => (dg_name c18 [1, 2] 2 rfl (by decide) (by decide))) (fun _ c18 => dts_nil) (fun _ c18 => (de_fn c18 (h_is_from_to.up (by decide)) 0 rfl (da_cons (de_var c18 2 rfl (by decide)) (da_cons de_int (da_cons (q_MOST_STONE T c18 1 rfl) da_nil))))))) da_nil)))))
theorem h_are_longs {M : Md} (T : Hs M) (h_is_from_to : Has M false 2 "is_from_to" ["thing", "least", "most"] m_is_from_to) (F : TopFn M "are_longs" s_are_longs ["thing"]) : Has M false 3 "are_longs" ["thing"] m_are_longs := has_of F sc_are_longs t_are_longs rfl rfl (fun X c => b_are_longs T h_is_from_to c)
abbrev s_need_longs : Stmt := topS 40
def B_need_longs : Tb := ⟨["longs"], [0], [0], [0], ["are_longs", "NoLongs"], [], true, false, none⟩
theorem sc_need_longs : FnScope B_need_longs.N ["longs"] (defScope s_need_longs) := ⟨rfl, rfl, rfl, by decide +kernel, rfl, by decide +kernel, by decide +kernel⟩
theorem t_need_longs : fnT B_need_longs (defScope s_need_longs) = true := by decide +kernel
noncomputable def d_need_longs : En → Sto → SR :=
    (sIf (tNot1 (tTru (eCall m_are_longs (aCons (eVar 0) aNil)))) sNo sNil)
noncomputable def m_need_longs : List Wv → Sto → Rs Wv := mkF 1 1 d_need_longs
theorem b_need_longs {M : Md} {X : Cx} (T : Hs M) (h_are_longs : Has M false 3 "are_longs" ["thing"] m_are_longs) (c : Cxt M X B_need_longs 3) : DB X (defBody s_need_longs) d_need_longs :=
    (db_one (ds_if (dt_not (dt_val (de_fn c (h_are_longs.up (by decide)) 0 rfl (da_cons (de_var c 0 rfl (by decide)) da_nil)))) (db_one ds_no) db_nil))
theorem h_need_longs {M : Md} (T : Hs M) (h_are_longs : Has M false 3 "are_longs" ["thing"] m_are_longs) (F : TopFn M "need_longs" s_need_longs ["longs"]) : Has M false 4 "need_longs" ["longs"] m_need_longs := has_of F sc_need_longs t_need_longs rfl rfl (fun X c => b_need_longs T h_are_longs c)
abbrev s_is_span : Stmt := topS 41
def B_is_span : Tb := ⟨["thing"], [0], [0], [0], ["is_from_to", "MOST_SPAN"], [], true, false, none⟩
theorem sc_is_span : FnScope B_is_span.N ["thing"] (defScope s_is_span) := ⟨rfl, rfl, rfl, by decide +kernel, rfl, by decide +kernel, by decide +kernel⟩
theorem t_is_span : fnT B_is_span (defScope s_is_span) = true := by decide +kernel
noncomputable def d_is_span : En → Sto → SR :=
    (sRet (eCall m_is_from_to (aCons (eVar 0) (aCons (eK (.int 1)) (aCons (eK w_MOST_SPAN) aNil)))))
noncomputable def m_is_span : List Wv → Sto → Rs Wv := mkF 1 1 d_is_span
theorem b_is_span {M : Md} {X : Cx} (T : Hs M) (h_is_from_to : Has M false 2 "is_from_to" ["thing", "least", "most"] m_is_from_to) (c : Cxt M X B_is_span 2) : DB X (defBody s_is_span) d_is_span :=
    (db_one (ds_ret (de_fn c (h_is_from_to.up (by decide)) 0 rfl (da_cons (de_var c 0 rfl (by decide)) (da_cons de_int (da_cons (q_MOST_SPAN T c 1 rfl) da_nil))))))
theorem h_is_span {M : Md} (T : Hs M) (h_is_from_to : Has M false 2 "is_from_to" ["thing", "least", "most"] m_is_from_to) (F : TopFn M "is_span" s_is_span ["thing"]) : Has M false 3 "is_span" ["thing"] m_is_span := has_of F sc_is_span t_is_span rfl rfl (fun X c => b_is_span T h_is_from_to c)
abbrev s_need_span : Stmt := topS 42
def B_need_span : Tb := ⟨["span"], [0], [0], [0], ["is_span", "NoSpan"], [], true, false, none⟩
theorem sc_need_span : FnScope B_need_span.N ["span"] (defScope s_need_span) := ⟨rfl, rfl, rfl, by decide +kernel, rfl, by decide +kernel, by decide +kernel⟩
theorem t_need_span : fnT B_need_span (defScope s_need_span) = true := by decide +kernel
noncomputable def d_need_span : En → Sto → SR :=
    (sIf (tNot1 (tTru (eCall m_is_span (aCons (eVar 0) aNil)))) sNo sNil)
noncomputable def m_need_span : List Wv → Sto → Rs Wv := mkF 1 1 d_need_span
theorem b_need_span {M : Md} {X : Cx} (T : Hs M) (h_is_span : Has M false 3 "is_span" ["thing"] m_is_span) (c : Cxt M X B_need_span 3) : DB X (defBody s_need_span) d_need_span :=
    (db_one (ds_if (dt_not (dt_val (de_fn c (h_is_span.up (by decide)) 0 rfl (da_cons (de_var c 0 rfl (by decide)) da_nil)))) (db_one ds_no) db_nil))
theorem h_need_span {M : Md} (T : Hs M) (h_is_span : Has M false 3 "is_span" ["thing"] m_is_span) (F : TopFn M "need_span" s_need_span ["span"]) : Has M false 4 "need_span" ["span"] m_need_span := has_of F sc_need_span t_need_span rfl rfl (fun X c => b_need_span T h_is_span c)
abbrev s_are_joints : Stmt := topS 43
def B_are_joints : Tb := ⟨["thing"], [0], [0], [0], ["isinstance", "tuple", "len", "is_from_to", "MOST_JOINT"], [], true, false, none⟩
theorem sc_are_joints : FnScope B_are_joints.N ["thing"] (defScope s_are_joints) := ⟨rfl, rfl, rfl, by decide +kernel, rfl, by decide +kernel, by decide +kernel⟩
theorem t_are_joints : fnT B_are_joints (defScope s_are_joints) = true := by decide +kernel
noncomputable def d_are_joints : En → Sto → SR :=
    (sSeq (sIf (tOr2 (tNot1 (tTru (eOp1 (isaD "tuple") (eVar 0)))) (tBl (eOp2 neD (eOpN lenF (aCons (eVar 0) aNil)) (eK (.int 2))))) (sRet (eK (.bool false))) sNil)
    (sRet (eAnd2 (eCall m_is_from_to (aCons (eOp2 ixD (eVar 0) (eK (.int 0))) (aCons (eK (.int 0)) (aCons (eK w_MOST_JOINT) aNil)))) (eCall m_is_from_to (aCons (eOp2 ixD (eVar 0) (eK (.int 1))) (aCons (eOp2 ixD (eVar 0) (eK (.int 0))) (aCons (eK w_MOST_JOINT) aNil)))))))
noncomputable def m_are_joints : List Wv → Sto → Rs Wv := mkF 1 1 d_are_joints
theorem b_are_joints {M : Md} {X : Cx} (T : Hs M) (h_is_from_to : Has M false 2 "is_from_to" ["thing", "least", "most"] m_is_from_to) (c : Cxt M X B_are_joints 2) : DB X (defBody s_are_joints) d_are_joints :=
    (db_cons (ds_if (DW.dt (dw_or (dt_not (dt_val (de_isa c 0 1 rfl T.z_isinstance rfl T.z_tuple (by decide +kernel) (de_var c 0 rfl (by decide))))) (dw_or1 (dt_cmp (o_ne c.roomH) (de_callB (id := "len") c c_len 2 rfl T.z_len (by decide +kernel) (da_cons (de_var c 0 rfl (by decide)) da_nil)) de_int (nomark _))))) (db_one (ds_ret de_bl)) db_nil)
    (db_one (ds_ret (de_and (de_fn c (h_is_from_to.up (by decide)) 3 rfl (da_cons (de_ix c.roomH (de_var c 0 rfl (by decide)) de_int (fun _ _ => rfl)) (da_cons de_int (da_cons (q_MOST_JOINT T c 4 rfl) da_nil)))) (de_one (de_fn c (h_is_from_to.up (by decide)) 3 rfl (da_cons (de_ix c.roomH (de_var c 0 rfl (by decide)) de_int (fun _ _ => rfl)) (da_cons (de_ix c.roomH (de_var c 0 rfl (by decide)) de_int (fun _ _ => rfl)) (da_cons (q_MOST_JOINT T c 4 rfl) da_nil)))))))))
theorem h_are_joints {M : Md} (T : Hs M) (h_is_from_to : Has M false 2 "is_from_to" ["thing", "least", "most"] m_is_from_to) (F : TopFn M "are_joints" s_are_joints ["thing"]) : Has M false 3 "are_joints" ["thing"] m_are_joints := has_of F sc_are_joints t_are_joints rfl rfl (fun X c => b_are_joints T h_is_from_to c)
abbrev s_need_joints : Stmt := topS 44
def B_need_joints : Tb := ⟨["joints"], [0], [0], [0], ["are_joints", "NoJoints"], [], true, false, none⟩
theorem sc_need_joints : FnScope B_need_joints.N ["joints"] (defScope s_need_joints) := ⟨rfl, rfl, rfl, by decide +kernel, rfl, by decide +kernel, by decide +kernel⟩
theorem t_need_joints : fnT B_need_joints (defScope s_need_joints) = true := by decide +kernel
noncomputable def d_need_joints : En → Sto → SR :=
    (sIf (tNot1 (tTru (eCall m_are_joints (aCons (eVar 0) aNil)))) sNo sNil)
noncomputable def m_need_joints : List Wv → Sto → Rs Wv := mkF 1 1 d_need_joints
theorem b_need_joints {M : Md} {X : Cx} (T : Hs M) (h_are_joints : Has M false 3 "are_joints" ["thing"] m_are_joints) (c : Cxt M X B_need_joints 3) : DB X (defBody s_need_joints) d_need_joints :=
    (db_one (ds_if (dt_not (dt_val (de_fn c (h_are_joints.up (by decide)) 0 rfl (da_cons (de_var c 0 rfl (by decide)) da_nil)))) (db_one ds_no) db_nil))
theorem h_need_joints {M : Md} (T : Hs M) (h_are_joints : Has M false 3 "are_joints" ["thing"] m_are_joints) (F : TopFn M "need_joints" s_need_joints ["joints"]) : Has M false 4 "need_joints" ["joints"] m_need_joints := has_of F sc_need_joints t_need_joints rfl rfl (fun X c => b_need_joints T h_are_joints c)
abbrev s_need_all : Stmt := topS 45
def B_need_all : Tb := ⟨["longs", "span", "joints"], [0, 1, 2], [0, 1, 2], [0, 1, 2], ["need_longs", "need_span", "need_joints"], [], true, false, none⟩
theorem sc_need_all : FnScope B_need_all.N ["longs", "span", "joints"] (defScope s_need_all) := ⟨rfl, rfl, rfl, by decide +kernel, rfl, by decide +kernel, by decide +kernel⟩
theorem t_need_all : fnT B_need_all (defScope s_need_all) = true := by decide +kernel
noncomputable def d_need_all : En → Sto → SR :=
    (sSeq (sExp (eCall m_need_longs (aCons (eVar 0) aNil)))
    (sSeq (sExp (eCall m_need_span (aCons (eVar 1) aNil)))
    (sExp (eCall m_need_joints (aCons (eVar 2) aNil)))))
noncomputable def m_need_all : List Wv → Sto → Rs Wv := mkF 3 3 d_need_all
theorem b_need_all {M : Md} {X : Cx} (T : Hs M) (h_need_joints : Has M false 4 "need_joints" ["joints"] m_need_joints) (h_need_longs : Has M false 4 "need_longs" ["longs"] m_need_longs) (h_need_span : Has M false 4 "need_span" ["span"] m_need_span) (c : Cxt M X B_need_all 4) : DB X (defBody s_need_all) d_need_all :=
    (db_cons (ds_exp (de_fn c (h_need_longs.up (by decide)) 0 rfl (da_cons (de_var c 0 rfl (by decide)) da_nil)))
    (db_cons (ds_exp (de_fn c (h_need_span.up (by decide)) 1 rfl (da_cons (de_var c 1 rfl (by decide)) da_nil)))
    (db_one (ds_exp (de_fn c (h_need_joints.up (by decide)) 2 rfl (da_cons (de_var c 2 rfl (by decide)) da_nil))))))
theorem h_need_all {M : Md} (T : Hs M) (h_need_joints : Has M false 4 "need_joints" ["joints"] m_need_joints) (h_need_longs : Has M false 4 "need_longs" ["longs"] m_need_longs) (h_need_span : Has M false 4 "need_span" ["span"] m_need_span) (F : TopFn M "need_all" s_need_all ["longs", "span", "joints"]) : Has M false 5 "need_all" ["longs", "span", "joints"] m_need_all := has_of F sc_need_all t_need_all rfl rfl (fun X c => b_need_all T h_need_joints h_need_longs h_need_span c)
abbrev s_is_laid : Stmt := topS 46
def B_is_laid : Tb := ⟨["longs", "span", "joints", "thing", "end", "start", "long"], [0, 1, 2, 3, 4, 5, 6], [0, 1, 2, 3, 4, 5, 6], [0, 1, 2, 3, 4, 5, 6], ["isinstance", "tuple", "len", "zip", "is_from_to"], [], true, false, none⟩
theorem sc_is_laid : FnScope B_is_laid.N ["longs", "span", "joints", "thing"] (defScope s_is_laid) := ⟨rfl, rfl, rfl, by decide +kernel, rfl, by decide +kernel, by decide +kernel⟩
theorem t_is_laid : fnT B_is_laid (defScope s_is_laid) = true := by decide +kernel
noncomputable def d_is_laid_l1 : En → Sto → SR :=
    (sWp [5, 6] (sSeq (sIf (tBl (eOp2 isND (eVar 4) (eK .none))) (sIf (tNot1 (tTru (eCall m_is_from_to (aCons (eVar 5) (aCons (eK (.int 0)) (aCons (eK (.int 0)) aNil)))))) (sRet (eK (.bool false))) sNil) (sIf (tNot1 (tTru (eCall m_is_from_to (aCons (eVar 5) (aCons (eOp2 addD (eVar 4) (eOp2 ixD (eVar 2) (eK (.int 0)))) (aCons (eOp2 addD (eVar 4) (eOp2 ixD (eVar 2) (eK (.int 1)))) aNil)))))) (sRet (eK (.bool false))) sNil))
    (sSet 4 (eOp2 addD (eVar 5) (eVar 6)))))
noncomputable def d_is_laid : En → Sto → SR :=
    (sSeq (sIf (tOr2 (tNot1 (tTru (eOp1 (isaD "tuple") (eVar 3)))) (tBl (eOp2 neD (eOpN lenF (aCons (eVar 3) aNil)) (eOpN lenF (aCons (eVar 0) aNil))))) (sRet (eK (.bool false))) sNil)
    (sSeq (sSet 4 (eK .none))
    (sSeq (sFor (cZip2 (aCons (eVar 3) (aCons (eVar 0) aNil))) (gTp (gCn (gN 5) (gCn (gN 6) gNl))) d_is_laid_l1)
    (sRet (eOp2 eqD (eVar 4) (eVar 1))))))
noncomputable def m_is_laid : List Wv → Sto → Rs Wv := mkF 4 7 d_is_laid
theorem b_is_laid {M : Md} {X : Cx} (T : Hs M) (h_is_from_to : Has M false 2 "is_from_to" ["thing", "least", "most"] m_is_from_to) (c : Cxt M X B_is_laid 2) : DB X (defBody s_is_laid) d_is_laid :=
    (db_cons (ds_if (DW.dt (dw_or (dt_not (dt_val (de_isa c 0 1 rfl T.z_isinstance rfl T.z_tuple (by decide +kernel) (de_var c 3 rfl (by decide))))) (dw_or1 (dt_cmp (o_ne c.roomH) (de_callB (id := "len") c c_len 2 rfl T.z_len (by decide +kernel) (da_cons (de_var c 3 rfl (by decide)) da_nil)) (de_callB (id := "len") c c_len 2 rfl T.z_len (by decide +kernel) (da_cons (de_var c 0 rfl (by decide)) da_nil)) (nomark _))))) (db_one (ds_ret de_bl)) db_nil)
    (db_cons (ds_set c 4 rfl (by decide) de_non)
    (db_cons (ds_for c [5, 6] (di_zip2 c 3 rfl T.z_zip (da_cons (de_var c 3 rfl (by decide)) (da_cons (de_var c 0 rfl (by decide)) da_nil))) (dg_tup c (dgs_cons (dg_name c [5, 6] 5 rfl (by decide) (by decide)) (dgs_cons (dg_name c [5, 6] 6 rfl (by decide) (by decide)) (dgs_nil [5, 6]))) (asks_cons (asks_cons asks_nil)))
    (db_wp [5, 6] (db_cons (ds_if (dt_cmp o_isN (de_var c 4 rfl (by decide)) de_non (nomark _)) (db_one (ds_if (dt_not (dt_val (de_fn c (h_is_from_to.up (by decide)) 4 rfl (da_cons (de_var c 5 rfl (by decide)) (da_cons de_int (da_cons de_int da_nil)))))) (db_one (ds_ret de_bl)) db_nil)) (db_one (ds_if (dt_not (dt_val (de_fn c (h_is_from_to.up (by decide)) 4 rfl (da_cons (de_var c 5 rfl (by decide)) (da_cons (de_bin o_add (de_var c 4 rfl (by decide)) (de_ix c.roomH (de_var c 2 rfl (by decide)) de_int (fun _ _ => rfl))) (da_cons (de_bin o_add (de_var c 4 rfl (by decide)) (de_ix c.roomH (de_var c 2 rfl (by decide)) de_int (fun _ _ => rfl))) da_nil)))))) (db_one (ds_ret de_bl)) db_nil)))
    (db_one (ds_set c 4 rfl (by decide) (de_bin o_add (de_var c 5 rfl (by decide)) (de_var c 6 rfl (by decide))))))))
    (db_one (ds_ret (de_cmp (o_eq c.roomH) (de_var c 4 rfl (by decide)) (de_var c 1 rfl (by decide)) (nomark _)))))))
theorem h_is_laid {M : Md} (T : Hs M) (h_is_from_to : Has M false 2 "is_from_to" ["thing", "least", "most"] m_is_from_to) (F : TopFn M "is_laid" s_is_laid ["longs", "span", "joints", "thing"]) : Has M false 3 "is_laid" ["longs", "span", "joints", "thing"] m_is_laid := has_of F sc_is_laid t_is_laid rfl rfl (fun X c => b_is_laid T h_is_from_to c)
abbrev s_is_laying : Stmt := topS 47
def B_is_laying : Tb := ⟨["longs", "span", "joints", "thing"], [0, 1, 2, 3], [0, 1, 2, 3], [0, 1, 2, 3], ["need_all", "is_laid"], [], true, false, none⟩
theorem sc_is_laying : FnScope B_is_laying.N ["longs", "span", "joints", "thing"] (defScope s_is_laying) := ⟨rfl, rfl, rfl, by decide +kernel, rfl, by decide +kernel, by decide +kernel⟩
theorem t_is_laying : fnT B_is_laying (defScope s_is_laying) = true := by decide +kernel
noncomputable def d_is_laying : En → Sto → SR :=
    (sSeq (sExp (eCall m_need_all (aCons (eVar 0) (aCons (eVar 1) (aCons (eVar 2) aNil)))))
    (sRet (eCall m_is_laid (aCons (eVar 0) (aCons (eVar 1) (aCons (eVar 2) (aCons (eVar 3) aNil)))))))
noncomputable def m_is_laying : List Wv → Sto → Rs Wv := mkF 4 4 d_is_laying
theorem b_is_laying {M : Md} {X : Cx} (T : Hs M) (h_is_laid : Has M false 3 "is_laid" ["longs", "span", "joints", "thing"] m_is_laid) (h_need_all : Has M false 5 "need_all" ["longs", "span", "joints"] m_need_all) (c : Cxt M X B_is_laying 5) : DB X (defBody s_is_laying) d_is_laying :=
    (db_cons (ds_exp (de_fn c (h_need_all.up (by decide)) 0 rfl (da_cons (de_var c 0 rfl (by decide)) (da_cons (de_var c 1 rfl (by decide)) (da_cons (de_var c 2 rfl (by decide)) da_nil)))))
    (db_one (ds_ret (de_fn c (h_is_laid.up (by decide)) 1 rfl (da_cons (de_var c 0 rfl (by decide)) (da_cons (de_var c 1 rfl (by decide)) (da_cons (de_var c 2 rfl (by decide)) (da_cons (de_var c 3 rfl (by decide)) da_nil))))))))
theorem h_is_laying {M : Md} (T : Hs M) (h_is_laid : Has M false 3 "is_laid" ["longs", "span", "joints", "thing"] m_is_laid) (h_need_all : Has M false 5 "need_all" ["longs", "span", "joints"] m_need_all) (F : TopFn M "is_laying" s_is_laying ["longs", "span", "joints", "thing"]) : Has M false 6 "is_laying" ["longs", "span", "joints", "thing"] m_is_laying := has_of F sc_is_laying t_is_laying rfl rfl (fun X c => b_is_laying T h_is_laid h_need_all c)
abbrev s_first_cover : Stmt := topS 33
def B_first_cover : Tb := ⟨["path", "width", "some", "one", "other", ".0", "strip"], [0, 1, 2, 3, 4], [0, 1, 2, 3, 4], [0, 2, 3, 4], ["need_path", "need_width", "strips_by", "range", "len", "cover"], ["width"], true, false, none⟩
theorem sc_first_cover : FnScope B_first_cover.N ["path", "width"] (defScope s_first_cover) := ⟨rfl, rfl, rfl, by decide +kernel, rfl, by decide +kernel, by decide +kernel⟩
theorem t_first_cover : fnT B_first_cover (defScope s_first_cover) = true := by decide +kernel
noncomputable def d_first_cover_l1 : En → Sto → SR :=
    (sWp [4] (sIf (tTru (eCall m_cover (aCons (eOp2 ixD (eVar 2) (eVar 3)) (aCons (eOp2 ixD (eVar 2) (eVar 4)) aNil)))) (sRet (eTup (aCons (eVar 3) (aCons (eVar 4) aNil)))) sNil))
noncomputable def d_first_cover_l2 : En → Sto → SR :=
    (sWp [3, 4] (sFor (cRg2 (aCons (eOp2 addD (eVar 3) (eK (.int 1))) (aCons (eOpN lenF (aCons (eVar 2) aNil)) aNil))) (gN 4) d_first_cover_l1))
noncomputable def d_first_cover : En → Sto → SR :=
    (sSeq (sExp (eCall m_need_path (aCons (eVar 0) aNil)))
    (sSeq (sExp (eCall m_need_width (aCons (eVar 1) aNil)))
    (sSeq (sSet 2 (eLc (cSeq (eCall m_strips_by (aCons (eVar 0) (aCons (eVar 1) aNil)))) (gN 6) tYs (eCall m_rectangle (aCons (eVar 6) (aCons (eVar 1) (aCons (eK (.int 0)) (aCons (eOp2 ixD (eVar 6) (eK (.int 3))) aNil))))) [5, 6]))
    (sSeq (sFor (cRg1 (aCons (eOpN lenF (aCons (eVar 2) aNil)) aNil)) (gN 3) d_first_cover_l2)
    (sRet (eK .none))))))
noncomputable def m_first_cover : List Wv → Sto → Rs Wv := mkF 2 7 d_first_cover
theorem b_first_cover {M : Md} {X : Cx} (T : Hs M) (h_cover : Has M false 1 "cover" ["one", "other"] m_cover) (h_need_path : Has M false 5 "need_path" ["path"] m_need_path) (h_need_width : Has M false 3 "need_width" ["width"] m_need_width) (h_rectangle : Has M false 1 "rectangle" ["strip", "width", "start", "end"] m_rectangle) (h_strips_by : Has M false 3 "strips_by" ["path", "width"] m_strips_by) (c : Cxt M X B_first_cover 5) : DB X (defBody s_first_cover) d_first_cover :=
    (db_cons (ds_exp (de_fn c (h_need_path.up (by decide)) 0 rfl (da_cons (de_var c 0 rfl (by decide)) da_nil)))
    (db_cons (ds_exp (de_fn c (h_need_width.up (by decide)) 1 rfl (da_cons (de_var c 1 rfl (by decide)) da_nil)))
    (db_cons (ds_setlc c 2 rfl (by decide) rfl (lc_ok c [(".0", 5), ("strip", 6)] [5, 6, 1] [5, 6] ["rectangle"] ["width"] (by decide +kernel) (di_seq (de_fn c (h_strips_by.up (by decide)) 2 rfl (da_cons (de_var c 0 rfl (by decide)) (da_cons (de_var c 1 rfl (by decide)) da_nil)))) (by decide) (fun _ c19 => (dg_name c19 [5, 6] 6 rfl (by decide) (by decide))) (fun _ c19 => dts_nil) (fun _ c19 => (de_fn c19 (h_rectangle.up (by decide)) 0 rfl (da_cons (de_var c19 6 rfl (by decide)) (da_cons (de_var c19 1 rfl (by decide)) (da_cons de_int (da_cons (de_ix c19.roomH (de_var c19 6 rfl (by decide)) de_int (fun _ _ => rfl)) da_nil))))))) rfl (by decide +kernel))
    (db_cons (ds_for c [3] (di_range1 c 3 rfl T.z_range (da_cons (de_callB (id := "len") c c_len 4 rfl T.z_len (by decide +kernel) (da_cons (de_var c 2 rfl (by decide)) da_nil)) da_nil)) (dg_name c [3] 3 rfl (by decide) (by decide))
    (db_wp [3, 4] (db_one (ds_for c [4] (di_range2 c 3 rfl T.z_range (da_cons (de_bin o_add (de_var c 3 rfl (by decide)) de_int) (da_cons (de_callB (id := "len") c c_len 4 rfl T.z_len (by decide +kernel) (da_cons (de_var c 2 rfl (by decide)) da_nil)) da_nil))) (dg_name c [4] 4 rfl (by decide) (by decide))
    (db_wp [4] (db_one (ds_if (dt_val (de_fn c (h_cover.up (by decide)) 5 rfl (da_cons (de_ix c.roomH (de_var c 2 rfl (by decide)) (de_var c 3 rfl (by decide)) (fun _ _ => rfl)) (da_cons (de_ix c.roomH (de_var c 2 rfl (by decide)) (de_var c 4 rfl (by decide)) (fun _ _ => rfl)) da_nil)))) (db_one (ds_ret (de_tup (da_cons (de_var c 3 rfl (by decide)) (da_cons (de_var c 4 rfl (by decide)) da_nil))))) db_nil)))))))
    (db_one (ds_ret de_non))))))
theorem h_first_cover {M : Md} (T : Hs M) (h_cover : Has M false 1 "cover" ["one", "other"] m_cover) (h_need_path : Has M false 5 "need_path" ["path"] m_need_path) (h_need_width : Has M false 3 "need_width" ["width"] m_need_width) (h_rectangle : Has M false 1 "rectangle" ["strip", "width", "start", "end"] m_rectangle) (h_strips_by : Has M false 3 "strips_by" ["path", "width"] m_strips_by) (F : TopFn M "first_cover" s_first_cover ["path", "width"]) : Has M false 6 "first_cover" ["path", "width"] m_first_cover := has_of F sc_first_cover t_first_cover rfl rfl (fun X c => b_first_cover T h_cover h_need_path h_need_width h_rectangle h_strips_by c)
abbrev s_joints_of : Stmt := topS 70
def B_joints_of : Tb := ⟨["row", "found", "stones", "strip", ".0", "start", "long"], [0, 1, 2, 3], [0, 1, 2, 3], [0, 1, 2, 3], ["need_row", "zip", "strips_by", "sum"], [], true, false, none⟩
theorem sc_joints_of : FnScope B_joints_of.N ["row"] (defScope s_joints_of) := ⟨rfl, rfl, rfl, by decide +kernel, rfl, by decide +kernel, by decide +kernel⟩
theorem t_joints_of : fnT B_joints_of (defScope s_joints_of) = true := by decide +kernel
noncomputable def d_joints_of_l1 : En → Sto → SR :=
    (sWp [2, 3] (sExp (eM appW (eVar 1) (aCons (eOp2 mulD (eOp2 ixD (eVar 0) (eK (.int 1))) (eOp2 subD (eOp2 ixD (eVar 3) (eK (.int 3))) (eOpN sumF (aCons (eLc (cSeq (eVar 2)) (gTp (gCn (gN 5) (gCn (gN 6) gNl))) tYs (eVar 6) [4, 5, 6]) aNil)))) aNil))))
noncomputable def d_joints_of : En → Sto → SR :=
    (sSeq (sExp (eCall m_need_row (aCons (eVar 0) aNil)))
    (sSeq (sSet 1 (eNewL aNil))
    (sSeq (sFor (cZip2 (aCons (eOp2 ixD (eVar 0) (eK (.int 2))) (aCons (eCall m_strips_by (aCons (eOp2 ixD (eVar 0) (eK (.int 0))) (aCons (eOp2 ixD (eVar 0) (eK (.int 1))) aNil))) aNil))) (gTp (gCn (gN 2) (gCn (gN 3) gNl))) d_joints_of_l1)
    (sRetF (eVar 1)))))
noncomputable def m_joints_of : List Wv → Sto → Rs Wv := mkF 1 7 d_joints_of
theorem b_joints_of {M : Md} {X : Cx} (T : Hs M) (h_need_row : Has M false 7 "need_row" ["row"] m_need_row) (h_strips_by : Has M false 3 "strips_by" ["path", "width"] m_strips_by) (c : Cxt M X B_joints_of 7) : DB X (defBody s_joints_of) d_joints_of :=
    (db_cons (ds_exp (de_fn c (h_need_row.up (by decide)) 0 rfl (da_cons (de_var c 0 rfl (by decide)) da_nil)))
    (db_cons (ds_set c 1 rfl (by decide) (de_newl da_nil))
    (db_cons (ds_for c [2, 3] (di_zip2 c 1 rfl T.z_zip (da_cons (de_ix c.roomH (de_var c 0 rfl (by decide)) de_int (fun _ _ => rfl)) (da_cons (de_fn c (h_strips_by.up (by decide)) 2 rfl (da_cons (de_ix c.roomH (de_var c 0 rfl (by decide)) de_int (fun _ _ => rfl)) (da_cons (de_ix c.roomH (de_var c 0 rfl (by decide)) de_int (fun _ _ => rfl)) da_nil))) da_nil))) (dg_tup c (dgs_cons (dg_name c [2, 3] 2 rfl (by decide) (by decide)) (dgs_cons (dg_name c [2, 3] 3 rfl (by decide) (by decide)) (dgs_nil [2, 3]))) (asks_cons (asks_cons asks_nil)))
    (db_wp [2, 3] (db_one (ds_exp (de_append (de_var c 1 rfl (by decide)) (da_cons (de_bin o_mul (de_ix c.roomH (de_var c 0 rfl (by decide)) de_int (fun _ _ => rfl)) (de_bin o_sub (de_ix c.roomH (de_var c 3 rfl (by decide)) de_int (fun _ _ => rfl)) (de_callB (id := "sum") c (c_sum c.calm) 3 rfl T.z_sum (by decide +kernel) (da_cons (de_lc c (lc_ok c [(".0", 4), ("start", 5), ("long", 6)] [4, 5, 6] [4, 5, 6] [] [] (by decide +kernel) (di_seq (de_var c 2 rfl (by decide))) (by decide) (fun _ c20 => (dg_tup c20 (dgs_cons (dg_name c20 [4, 5, 6] 5 rfl (by decide) (by decide)) (dgs_cons (dg_name c20 [4, 5, 6] 6 rfl (by decide) (by decide)) (dgs_nil [4, 5, 6]))) (asks_cons (asks_cons asks_nil)))) (fun _ c20 => dts_nil) (fun _ c20 => (de_var c20 6 rfl (by decide))))) da_nil)))) da_nil))))))
    (db_one (ds_retf (de_var c 1 rfl (by decide)))))))
theorem h_joints_of {M : Md} (T : Hs M) (h_need_row : Has M false 7 "need_row" ["row"] m_need_row) (h_strips_by : Has M false 3 "strips_by" ["path", "width"] m_strips_by) (F : TopFn M "joints_of" s_joints_of ["row"]) : Has M false 8 "joints_of" ["row"] m_joints_of := has_of F sc_joints_of t_joints_of rfl rfl (fun X c => b_joints_of T h_need_row h_strips_by c)
abbrev s_amiss : Stmt := topS 55
def B_amiss : Tb := ⟨["stones", "long", "joints", "number", "start", "here", "joint"], [0, 1, 2, 3, 4, 5, 6], [0, 1, 2, 3, 4, 5, 6], [0, 1, 2, 3, 4, 5, 6], ["enumerate", "sum", "len"], [], true, false, none⟩
theorem sc_amiss : FnScope B_amiss.N ["stones", "long", "joints"] (defScope s_amiss) := ⟨rfl, rfl, rfl, by decide +kernel, rfl, by decide +kernel, by decide +kernel⟩
theorem t_amiss : fnT B_amiss (defScope s_amiss) = true := by decide +kernel
noncomputable def d_amiss_l1 : En → Sto → SR :=
    (sWp [3, 4, 5, 6] (sIf (tBl (eOp2 eqD (eVar 3) (eK (.int 0)))) (sIf (tBl (eOp2 gtD (eVar 4) (eK (.int 0)))) (sRet (eK (.int 0))) sNil) (sSeq (sSet 6 (eOp2 subD (eVar 4) (eOpN sumF (aCons (eOp2 ixD (eVar 0) (eOp2 subD (eVar 3) (eK (.int 1)))) aNil))))
    (sIf (tNot1 (tBl (eChain leD leD (eOp2 ixD (eVar 2) (eK (.int 0))) (eVar 6) (eOp2 ixD (eVar 2) (eK (.int 1)))))) (sRet (eVar 3)) sNil))))
noncomputable def d_amiss : En → Sto → SR :=
    (sSeq (sFor (cEnum (aCons (eVar 0) aNil)) (gTp (gCn (gN 3) (gCn (gTp (gCn (gN 4) (gCn (gN 5) gNl))) gNl))) d_amiss_l1)
    (sRet (eIf (tBl (eOp2 eqD (eOpN sumF (aCons (eOp2 ixD (eVar 0) (eOp1 negD (eK (.int 1)))) aNil)) (eVar 1))) (eK .none) (eOpN lenF (aCons (eVar 0) aNil)))))
noncomputable def m_amiss : List Wv → Sto → Rs Wv := mkF 3 7 d_amiss
theorem b_amiss {M : Md} {X : Cx} (T : Hs M)  (c : Cxt M X B_amiss 0) : DB X (defBody s_amiss) d_amiss :=
    (db_cons (ds_for c [3, 4, 5] (di_enum c 0 rfl T.z_enumerate (da_cons (de_var c 0 rfl (by decide)) da_nil)) (dg_tup c (dgs_cons (dg_name c [3, 4, 5] 3 rfl (by decide) (by decide)) (dgs_cons (dg_tup c (dgs_cons (dg_name c [3, 4, 5] 4 rfl (by decide) (by decide)) (dgs_cons (dg_name c [3, 4, 5] 5 rfl (by decide) (by decide)) (dgs_nil [3, 4, 5]))) (asks_cons (asks_cons asks_nil))) (dgs_nil [3, 4, 5]))) (asks_cons (asks_cons asks_nil)))
    (db_wp [3, 4, 5, 6] (db_one (ds_if (dt_cmp (o_eq c.roomH) (de_var c 3 rfl (by decide)) de_int (nomark _)) (db_one (ds_if (dt_cmp (o_gt c.roomH) (de_var c 4 rfl (by decide)) de_int (nomark _)) (db_one (ds_ret de_int)) db_nil)) (db_cons (ds_set c 6 rfl (by decide) (de_bin o_sub (de_var c 4 rfl (by decide)) (de_callB (id := "sum") c (c_sum c.calm) 1 rfl T.z_sum (by decide +kernel) (da_cons (de_ix c.roomH (de_var c 0 rfl (by decide)) (de_bin o_sub (de_var c 3 rfl (by decide)) de_int) (fun _ _ => rfl)) da_nil))))
    (db_one (ds_if (dt_not (dt_chain (o_le c.roomH) (o_le c.roomH) (de_ix c.roomH (de_var c 2 rfl (by decide)) de_int (fun _ _ => rfl)) (de_var c 6 rfl (by decide)) (de_ix c.roomH (de_var c 2 rfl (by decide)) de_int (fun _ _ => rfl)))) (db_one (ds_ret (de_var c 3 rfl (by decide)))) db_nil)))))))
    (db_one (ds_ret (de_if (dt_cmp (o_eq c.roomH) (de_callB (id := "sum") c (c_sum c.calm) 1 rfl T.z_sum (by decide +kernel) (da_cons (de_ix c.roomH (de_var c 0 rfl (by decide)) (de_un o_neg de_int) (fun _ _ => rfl)) da_nil)) (de_var c 1 rfl (by decide)) (nomark _)) de_non (de_callB (id := "len") c c_len 2 rfl T.z_len (by decide +kernel) (da_cons (de_var c 0 rfl (by decide)) da_nil))))))
theorem h_amiss {M : Md} (T : Hs M)  (F : TopFn M "amiss" s_amiss ["stones", "long", "joints"]) : Has M false 1 "amiss" ["stones", "long", "joints"] m_amiss := has_of F sc_amiss t_amiss rfl rfl (fun X c => b_amiss T  c)
abbrev s_in_joints : Stmt := topS 56
def B_in_joints : Tb := ⟨["row", "joints", "strip", "stones", "here", "found"], [0, 1, 2, 3, 4, 5], [0, 1, 2, 3, 4, 5], [0, 1, 2, 3, 4, 5], ["need_row", "need_joints", "enumerate", "zip", "strips_by", "amiss"], [], true, false, none⟩
theorem sc_in_joints : FnScope B_in_joints.N ["row", "joints"] (defScope s_in_joints) := ⟨rfl, rfl, rfl, by decide +kernel, rfl, by decide +kernel, by decide +kernel⟩
theorem t_in_joints : fnT B_in_joints (defScope s_in_joints) = true := by decide +kernel
noncomputable def d_in_joints_l1 : En → Sto → SR :=
    (sWp [2, 3, 4, 5] (sSeq (sSet 5 (eCall m_amiss (aCons (eVar 3) (aCons (eOp2 ixD (eVar 4) (eK (.int 3))) (aCons (eVar 1) aNil)))))
    (sIf (tBl (eOp2 ntND (eVar 5) (eK .none))) (sRet (eTup (aCons (eVar 2) (aCons (eVar 5) aNil)))) sNil)))
noncomputable def d_in_joints : En → Sto → SR :=
    (sSeq (sExp (eCall m_need_row (aCons (eVar 0) aNil)))
    (sSeq (sExp (eCall m_need_joints (aCons (eVar 1) aNil)))
    (sSeq (sFor (cEz (aCons (eOp2 ixD (eVar 0) (eK (.int 2))) (aCons (eCall m_strips_by (aCons (eOp2 ixD (eVar 0) (eK (.int 0))) (aCons (eOp2 ixD (eVar 0) (eK (.int 1))) aNil))) aNil))) (gTp (gCn (gN 2) (gCn (gTp (gCn (gN 3) (gCn (gN 4) gNl))) gNl))) d_in_joints_l1)
    (sRet (eK .none)))))
noncomputable def m_in_joints : List Wv → Sto → Rs Wv := mkF 2 6 d_in_joints
theorem b_in_joints {M : Md} {X : Cx} (T : Hs M) (h_amiss : Has M false 1 "amiss" ["stones", "long", "joints"] m_amiss) (h_need_joints : Has M false 4 "need_joints" ["joints"] m_need_joints) (h_need_row : Has M false 7 "need_row" ["row"] m_need_row) (h_strips_by : Has M false 3 "strips_by" ["path", "width"] m_strips_by) (c : Cxt M X B_in_joints 7) : DB X (defBody s_in_joints) d_in_joints :=
    (db_cons (ds_exp (de_fn c (h_need_row.up (by decide)) 0 rfl (da_cons (de_var c 0 rfl (by decide)) da_nil)))
    (db_cons (ds_exp (de_fn c (h_need_joints.up (by decide)) 1 rfl (da_cons (de_var c 1 rfl (by decide)) da_nil)))
    (db_cons (ds_for c [2, 3, 4] (di_ez c 2 3 rfl T.z_enumerate rfl T.z_zip (da_cons (de_ix c.roomH (de_var c 0 rfl (by decide)) de_int (fun _ _ => rfl)) (da_cons (de_fn c (h_strips_by.up (by decide)) 4 rfl (da_cons (de_ix c.roomH (de_var c 0 rfl (by decide)) de_int (fun _ _ => rfl)) (da_cons (de_ix c.roomH (de_var c 0 rfl (by decide)) de_int (fun _ _ => rfl)) da_nil))) da_nil))) (dg_tup c (dgs_cons (dg_name c [2, 3, 4] 2 rfl (by decide) (by decide)) (dgs_cons (dg_tup c (dgs_cons (dg_name c [2, 3, 4] 3 rfl (by decide) (by decide)) (dgs_cons (dg_name c [2, 3, 4] 4 rfl (by decide) (by decide)) (dgs_nil [2, 3, 4]))) (asks_cons (asks_cons asks_nil))) (dgs_nil [2, 3, 4]))) (asks_cons (asks_cons asks_nil)))
    (db_wp [2, 3, 4, 5] (db_cons (ds_set c 5 rfl (by decide) (de_fn c (h_amiss.up (by decide)) 5 rfl (da_cons (de_var c 3 rfl (by decide)) (da_cons (de_ix c.roomH (de_var c 4 rfl (by decide)) de_int (fun _ _ => rfl)) (da_cons (de_var c 1 rfl (by decide)) da_nil)))))
    (db_one (ds_if (dt_cmp o_ntN (de_var c 5 rfl (by decide)) de_non (nomark _)) (db_one (ds_ret (de_tup (da_cons (de_var c 2 rfl (by decide)) (da_cons (de_var c 5 rfl (by decide)) da_nil))))) db_nil)))))
    (db_one (ds_ret de_non)))))
theorem h_in_joints {M : Md} (T : Hs M) (h_amiss : Has M false 1 "amiss" ["stones", "long", "joints"] m_amiss) (h_need_joints : Has M false 4 "need_joints" ["joints"] m_need_joints) (h_need_row : Has M false 7 "need_row" ["row"] m_need_row) (h_strips_by : Has M false 3 "strips_by" ["path", "width"] m_strips_by) (F : TopFn M "in_joints" s_in_joints ["row", "joints"]) : Has M false 8 "in_joints" ["row", "joints"] m_in_joints := has_of F sc_in_joints t_in_joints rfl rfl (fun X c => b_in_joints T h_amiss h_need_joints h_need_row h_strips_by c)
abbrev s__law_one_right : Stmt := topS 84
def B__law_one_right : Tb := ⟨["_law_row_here", "_law_joints_here", "_law_path_here", "_law_width", "_law_laid", "_law_some", "_law_rects", "_law_at", "_law_number", "_law_stones_here", "_law_whole", "_law_held", "_law_start", "_law_long", "_law_good", "_law_strip", "_law_longs", "_law_starts", ".0", "_law_one"], [0, 1, 2, 3, 4, 5, 6, 7, 8, 9, 10, 11, 12, 13, 14, 15, 16, 17], [0, 1, 2, 3, 4, 5, 6, 7, 8, 9, 10, 11, 12, 13, 14, 15, 16, 17], [0, 1, 2, 3, 4, 5, 6, 7, 8, 9, 10, 11, 12, 13, 14, 15, 16, 17], ["strips", "stones_of", "enumerate", "_law_area", "rect_of", "joints_of", "zip", "tuple", "is_laying", "first_cover", "first_over", "len", "in_joints"], [], true, false, none⟩
theorem sc__law_one_right : FnScope B__law_one_right.N ["_law_row_here", "_law_joints_here"] (defScope s__law_one_right) := ⟨rfl, rfl, rfl, by decide +kernel, rfl, by decide +kernel, by decide +kernel⟩
theorem t__law_one_right : fnT B__law_one_right (defScope s__law_one_right) = true := by decide +kernel
noncomputable def d__law_one_right_l1 : En → Sto → SR :=
    (sWp [12, 13] (sSeq (sIf (tBl (eOp2 neD (eOp2 ixD (eVar 6) (eVar 7)) (eCall m_rect_of (aCons (eVar 2) (aCons (eVar 3) (aCons (eVar 8) (aCons (eVar 12) (aCons (eOp2 addD (eVar 12) (eVar 13)) aNil)))))))) (sRet (eK (.bool false))) sNil)
    (sSeq (sSet 11 (eOp2 addD (eVar 11) (eCall m__law_area (aCons (eOp2 ixD (eVar 6) (eVar 7)) aNil))))
    (sSet 7 (eOp2 addD (eVar 7) (eK (.int 1)))))))
noncomputable def d__law_one_right_l2 : En → Sto → SR :=
    (sWp [8, 9, 10, 11, 12, 13] (sSeq (sSet 10 (eCall m__law_area (aCons (eCall m_rect_of (aCons (eVar 2) (aCons (eVar 3) (aCons (eVar 8) (aCons (eK (.int 0)) (aCons (eOp2 ixD (eOp2 ixD (eVar 5) (eVar 8)) (eK (.int 3))) aNil)))))) aNil)))
    (sSeq (sSet 11 (eK (.int 0)))
    (sSeq (sFor (cSeq (eVar 9)) (gTp (gCn (gN 12) (gCn (gN 13) gNl))) d__law_one_right_l1)
    (sIf (tBl (eOp2 neD (eOp2 ixD (eCall m_joints_of (aCons (eVar 0) aNil)) (eVar 8)) (eOp2 subD (eVar 10) (eVar 11)))) (sRet (eK (.bool false))) sNil)))))
noncomputable def d__law_one_right_l3 : En → Sto → SR :=
    (sWp [9, 15, 16, 17] (sSeq (sPar2 16 17 (aCons (eOpN tupF (aCons (eLc (cSeq (eVar 9)) (gN 19) tYs (eOp2 ixD (eVar 19) (eK (.int 1))) [18, 19]) aNil)) (aCons (eOpN tupF (aCons (eLc (cSeq (eVar 9)) (gN 19) tYs (eOp2 ixD (eVar 19) (eK (.int 0))) [18, 19]) aNil)) aNil)))
    (sSet 14 (eAnd2 (eVar 14) (eCall m_is_laying (aCons (eVar 16) (aCons (eOp2 ixD (eVar 15) (eK (.int 3))) (aCons (eVar 1) (aCons (eVar 17) aNil)))))))))
noncomputable def d__law_one_right : En → Sto → SR :=
    (sSeq (sAsg (gTp (gCn (gN 2) (gCn (gN 3) (gCn (gN 4) gNl)))) (eVar 0))
    (sSeq (sPar3 5 6 7 (aCons (eCall m_strips (aCons (eVar 2) (aCons (eVar 3) aNil))) (aCons (eCall m_stones_of (aCons (eVar 0) aNil)) (aCons (eK (.int 0)) aNil))))
    (sSeq (sWi [9] (sFor (cEnum (aCons (eVar 4) aNil)) (gTp (gCn (gN 8) (gCn (gN 9) gNl))) d__law_one_right_l2))
    (sSeq (sSet 14 (eK (.bool true)))
    (sSeq (sWi [9] (sFor (cZip2 (aCons (eVar 5) (aCons (eVar 4) aNil))) (gTp (gCn (gN 15) (gCn (gN 9) gNl))) d__law_one_right_l3))
    (sSeq (sIf (tAnd2 (tBl (eOp2 isND (eCall m_first_cover (aCons (eVar 2) (aCons (eVar 3) aNil))) (eK .none))) (tBl (eOp2 ntND (eCall m_first_over (aCons (eTup (aCons (eVar 0) aNil)) aNil)) (eK .none)))) (sRet (eK (.bool false))) sNil)
    (sRet (eAnd2 (eOp2 eqD (eVar 7) (eOpN lenF (aCons (eVar 6) aNil))) (eOp2 eqD (eOp2 isND (eCall m_in_joints (aCons (eVar 0) (aCons (eVar 1) aNil))) (eK .none)) (eVar 14))))))))))
noncomputable def m__law_one_right : List Wv → Sto → Rs Wv := mkF 2 20 d__law_one_right
theorem b__law_one_right {M : Md} {X : Cx} (T : Hs M) (h__law_area : Has M false 1 "_law_area" ["_law_rect"] m__law_area) (h_first_cover : Has M false 6 "first_cover" ["path", "width"] m_first_cover) (h_first_over : Has M false 8 "first_over" ["rows"] m_first_over) (h_in_joints : Has M false 8 "in_joints" ["row", "joints"] m_in_joints) (h_is_laying : Has M false 6 "is_laying" ["longs", "span", "joints", "thing"] m_is_laying) (h_joints_of : Has M false 8 "joints_of" ["row"] m_joints_of) (h_rect_of : Has M false 6 "rect_of" ["path", "width", "strip", "start", "end"] m_rect_of) (h_stones_of : Has M false 8 "stones_of" ["row"] m_stones_of) (h_strips : Has M false 6 "strips" ["path", "width"] m_strips) (c : Cxt M X B__law_one_right 8) : DB X (defBody s__law_one_right) d__law_one_right :=
    (db_cons (ds_asg (de_var c 0 rfl (by decide)) (dg_tup c (dgs_cons (dg_name c [2, 3, 4] 2 rfl (by decide) (by decide)) (dgs_cons (dg_name c [2, 3, 4] 3 rfl (by decide) (by decide)) (dgs_cons (dg_name c [2, 3, 4] 4 rfl (by decide) (by decide)) (dgs_nil [2, 3, 4])))) (asks_cons (asks_cons (asks_cons asks_nil)))))
    (db_cons (ds_par3 c 5 6 7 rfl rfl rfl (by decide) (by decide) (by decide) (isLoc c (i := 5) (by decide) rfl) (isLoc c (i := 6) (by decide) rfl) (isLoc c (i := 7) (by decide) rfl) (da_cons (de_fn c (h_strips.up (by decide)) 0 rfl (da_cons (de_var c 2 rfl (by decide)) (da_cons (de_var c 3 rfl (by decide)) da_nil))) (da_cons (de_fn c (h_stones_of.up (by decide)) 1 rfl (da_cons (de_var c 0 rfl (by decide)) da_nil)) (da_cons de_int da_nil))) (sw3 c (i := 5) (j := 6) (l := 7) rfl rfl rfl (by decide) (by decide) (by decide) (by decide +kernel) rfl rfl rfl (by intro _ _ h; cases h) (by intro _ _ h; cases h) (by intro _ _ h; cases h) rfl rfl))
    (db_cons (ds_wi [9] (ds_for c [8, 9] (di_enum c 2 rfl T.z_enumerate (da_cons (de_var c 4 rfl (by decide)) da_nil)) (dg_tup c (dgs_cons (dg_name c [8, 9] 8 rfl (by decide) (by decide)) (dgs_cons (dg_name c [8, 9] 9 rfl (by decide) (by decide)) (dgs_nil [8, 9]))) (asks_cons (asks_cons asks_nil)))
    (db_wp [8, 9, 10, 11, 12, 13] (db_cons (ds_set c 10 rfl (by decide) (de_fn c (h__law_area.up (by decide)) 3 rfl (da_cons (de_fn c (h_rect_of.up (by decide)) 4 rfl (da_cons (de_var c 2 rfl (by decide)) (da_cons (de_var c 3 rfl (by decide)) (da_cons (de_var c 8 rfl (by decide)) (da_cons de_int (da_cons (de_ix c.roomH (de_ix c.roomH (de_var c 5 rfl (by decide)) (de_var c 8 rfl (by decide)) (fun _ _ => rfl)) de_int (fun _ _ => rfl)) da_nil)))))) da_nil)))
    (db_cons (ds_set c 11 rfl (by decide) de_int)
    (db_cons (ds_for c [12, 13] (di_seq (de_var c 9 rfl (by decide))) (dg_tup c (dgs_cons (dg_name c [12, 13] 12 rfl (by decide) (by decide)) (dgs_cons (dg_name c [12, 13] 13 rfl (by decide) (by decide)) (dgs_nil [12, 13]))) (asks_cons (asks_cons asks_nil)))
    (db_wp [12, 13] (db_cons (ds_if (dt_cmp (o_ne c.roomH) (de_ix c.roomH (de_var c 6 rfl (by decide)) (de_var c 7 rfl (by decide)) (fun _ _ => rfl)) (de_fn c (h_rect_of.up (by decide)) 4 rfl (da_cons (de_var c 2 rfl (by decide)) (da_cons (de_var c 3 rfl (by decide)) (da_cons (de_var c 8 rfl (by decide)) (da_cons (de_var c 12 rfl (by decide)) (da_cons (de_bin o_add (de_var c 12 rfl (by decide)) (de_var c 13 rfl (by decide))) da_nil)))))) (nomark _)) (db_one (ds_ret de_bl)) db_nil)
    (db_cons (ds_set c 11 rfl (by decide) (de_bin o_add (de_var c 11 rfl (by decide)) (de_fn c (h__law_area.up (by decide)) 3 rfl (da_cons (de_ix c.roomH (de_var c 6 rfl (by decide)) (de_var c 7 rfl (by decide)) (fun _ _ => rfl)) da_nil))))
    (db_one (ds_set c 7 rfl (by decide) (de_bin o_add (de_var c 7 rfl (by decide)) de_int)))))))
    (db_one (ds_if (dt_cmp (o_ne c.roomH) (de_ix c.roomH (de_fn c (h_joints_of.up (by decide)) 5 rfl (da_cons (de_var c 0 rfl (by decide)) da_nil)) (de_var c 8 rfl (by decide)) (fun _ _ => rfl)) (de_bin o_sub (de_var c 10 rfl (by decide)) (de_var c 11 rfl (by decide))) (nomark _)) (db_one (ds_ret de_bl)) db_nil))))))))
    (db_cons (ds_set c 14 rfl (by decide) de_bl)
    (db_cons (ds_wi [9] (ds_for c [9, 15] (di_zip2 c 6 rfl T.z_zip (da_cons (de_var c 5 rfl (by decide)) (da_cons (de_var c 4 rfl (by decide)) da_nil))) (dg_tup c (dgs_cons (dg_name c [9, 15] 15 rfl (by decide) (by decide)) (dgs_cons (dg_name c [9, 15] 9 rfl (by decide) (by decide)) (dgs_nil [9, 15]))) (asks_cons (asks_cons asks_nil)))
    (db_wp [9, 15, 16, 17] (db_cons (ds_par2 c 16 17 rfl rfl (by decide) (isLoc c (i := 16) (by decide) rfl) (isLoc c (i := 17) (by decide) rfl) (da_cons (de_callT (T := "tuple") c c_tup 7 rfl T.z_tuple (by decide +kernel) (da_cons (de_lc c (lc_ok c [(".0", 18), ("_law_one", 19)] [18, 19] [18, 19] [] [] (by decide +kernel) (di_seq (de_var c 9 rfl (by decide))) (by decide) (fun _ c22 => (dg_name c22 [18, 19] 19 rfl (by decide) (by decide))) (fun _ c22 => dts_nil) (fun _ c22 => (de_ix c22.roomH (de_var c22 19 rfl (by decide)) de_int (fun _ _ => rfl))))) da_nil)) (da_cons (de_callT (T := "tuple") c c_tup 7 rfl T.z_tuple (by decide +kernel) (da_cons (de_lc c (lc_ok c [(".0", 18), ("_law_one", 19)] [18, 19] [18, 19] [] [] (by decide +kernel) (di_seq (de_var c 9 rfl (by decide))) (by decide) (fun _ c21 => (dg_name c21 [18, 19] 19 rfl (by decide) (by decide))) (fun _ c21 => dts_nil) (fun _ c21 => (de_ix c21.roomH (de_var c21 19 rfl (by decide)) de_int (fun _ _ => rfl))))) da_nil)) da_nil)) (sw2 c (i := 16) (j := 17) rfl rfl (by decide) (by decide) (by decide +kernel) rfl rfl (by intro _ _ h; cases h) (by intro _ _ h; cases h) rfl rfl))
    (db_one (ds_set c 14 rfl (by decide) (de_and (de_var c 14 rfl (by decide)) (de_one (de_fn c (h_is_laying.up (by decide)) 8 rfl (da_cons (de_var c 16 rfl (by decide)) (da_cons (de_ix c.roomH (de_var c 15 rfl (by decide)) de_int (fun _ _ => rfl)) (da_cons (de_var c 1 rfl (by decide)) (da_cons (de_var c 17 rfl (by decide)) da_nil)))))))))))))
    (db_cons (ds_if (DW.dt (dw_and (dt_cmp o_isN (de_fn c (h_first_cover.up (by decide)) 9 rfl (da_cons (de_var c 2 rfl (by decide)) (da_cons (de_var c 3 rfl (by decide)) da_nil))) de_non (nomark _)) (dw_and1 (dt_cmp o_ntN (de_fn c (h_first_over.up (by decide)) 10 rfl (da_cons (de_tup (da_cons (de_var c 0 rfl (by decide)) da_nil)) da_nil)) de_non (nomark _))))) (db_one (ds_ret de_bl)) db_nil)
    (db_one (ds_ret (de_and (de_cmp (o_eq c.roomH) (de_var c 7 rfl (by decide)) (de_callB (id := "len") c c_len 11 rfl T.z_len (by decide +kernel) (da_cons (de_var c 6 rfl (by decide)) da_nil)) (nomark _)) (de_one (de_cmp (o_eq c.roomH) (de_cmp o_isN (de_fn c (h_in_joints.up (by decide)) 12 rfl (da_cons (de_var c 0 rfl (by decide)) (da_cons (de_var c 1 rfl (by decide)) da_nil))) de_non (nomark _)) (de_var c 14 rfl (by decide)) (nomark _))))))))))))
theorem h__law_one_right {M : Md} (T : Hs M) (h__law_area : Has M false 1 "_law_area" ["_law_rect"] m__law_area) (h_first_cover : Has M false 6 "first_cover" ["path", "width"] m_first_cover) (h_first_over : Has M false 8 "first_over" ["rows"] m_first_over) (h_in_joints : Has M false 8 "in_joints" ["row", "joints"] m_in_joints) (h_is_laying : Has M false 6 "is_laying" ["longs", "span", "joints", "thing"] m_is_laying) (h_joints_of : Has M false 8 "joints_of" ["row"] m_joints_of) (h_rect_of : Has M false 6 "rect_of" ["path", "width", "strip", "start", "end"] m_rect_of) (h_stones_of : Has M false 8 "stones_of" ["row"] m_stones_of) (h_strips : Has M false 6 "strips" ["path", "width"] m_strips) (F : TopFn M "_law_one_right" s__law_one_right ["_law_row_here", "_law_joints_here"]) : Has M false 9 "_law_one_right" ["_law_row_here", "_law_joints_here"] m__law_one_right := has_of F sc__law_one_right t__law_one_right rfl rfl (fun X c => b__law_one_right T h__law_area h_first_cover h_first_over h_in_joints h_is_laying h_joints_of h_rect_of h_stones_of h_strips c)
abbrev s_law : Stmt := topS 86
def B_law : Tb := ⟨["_law_script", "_law_cell", "_law_pen", "_law_rows", "_law_joints_here", "_law_other", "_law_found", ".0", "_law_turn", "_law_row_here"], [0, 1, 2, 3, 4, 5, 6], [0, 1, 2, 3, 4, 5, 6], [0, 1, 3, 5, 6], ["_law_cell_at", "_law_pen_of", "tuple", "range", "_law_draw", "_law_joints", "all", "_law_rows_right", "apart", "first_over"], ["_law_pen", "_law_joints_here"], true, false, none⟩
theorem sc_law : FnScope B_law.N ["_law_script"] (defScope s_law) := ⟨rfl, rfl, rfl, by decide +kernel, rfl, by decide +kernel, by decide +kernel⟩
theorem t_law : fnT B_law (defScope s_law) = true := by decide +kernel
noncomputable def d_law_l1 : En → Sto → SR :=
    (sWp [5, 6] (sSeq (sIf (tBl (eOp2 neD (eCall m_apart (aCons (eOp2 ixD (eVar 3) (eK (.int 0))) (aCons (eVar 5) aNil))) (eCall m_apart (aCons (eVar 5) (aCons (eOp2 ixD (eVar 3) (eK (.int 0))) aNil))))) (sRet (eK (.bool false))) sNil)
    (sIf (tBl (eOp2 gtD (eCall m_apart (aCons (eOp2 ixD (eVar 3) (eK (.int 0))) (aCons (eVar 5) aNil))) (eK (.int 0)))) (sSeq (sSet 6 (eCall m_first_over (aCons (eTup (aCons (eOp2 ixD (eVar 3) (eK (.int 0))) (aCons (eVar 5) aNil))) aNil)))
    (sIf (tAnd2 (tBl (eOp2 ntND (eVar 6) (eK .none))) (tBl (eOp2 neD (eOp2 ixD (eVar 6) (eK (.int 0))) (eOp2 ixD (eVar 6) (eK (.int 2)))))) (sRet (eK (.bool false))) sNil)) sNil)))
noncomputable def d_law_l2 : En → Sto → SR :=
    (sWp [1, 2, 3, 4, 5, 6] (sSeq (sSet 2 (eCall m__law_pen_of (aCons (eVar 1) aNil)))
    (sSeq (sSet 3 (eOpN tupF (aCons (eLc (cRg1 (aCons (eOp2 addD (eK (.int 1)) (eCall m__law_draw (aCons (eVar 2) (aCons (eK (.int 4)) aNil)))) aNil)) (gN 8) tYs (eCall m__law_row (aCons (eVar 2) aNil)) [7, 8]) aNil)))
    (sSeq (sSet 4 (eCall m__law_joints (aCons (eVar 2) aNil)))
    (sSeq (sIf (tNot1 (tTru (eOpN allF (aCons (eLc (cSeq (eVar 3)) (gN 9) tYs (eAnd2 (eCall m_is_row (aCons (eVar 9) aNil)) (eCall m__law_one_right (aCons (eVar 9) (aCons (eVar 4) aNil)))) [7, 9]) aNil)))) (sRet (eK (.bool false))) sNil)
    (sSeq (sIf (tNot1 (tTru (eCall m__law_rows_right (aCons (eVar 3) aNil)))) (sRet (eK (.bool false))) sNil)
    (sFor (cSeq (eSlice (eVar 3) (pSome (eK (.int 1))) pNo)) (gN 5) d_law_l1)))))))
noncomputable def d_law : En → Sto → SR :=
    (sSeq (sFor (cSeq (eOp2 addD (eLst (aCons (eCall m__law_cell_at (aCons (eVar 0) (aCons (eK (.int 0)) aNil))) aNil)) (eSlice (eVar 0) (pSome (eK (.int 1))) (pSome (eK (.int 2)))))) (gN 1) d_law_l2)
    (sRet (eK (.bool true))))
noncomputable def m_law : List Wv → Sto → Rs Wv := mkF 1 10 d_law
theorem b_law {M : Md} {X : Cx} (T : Hs M) (h__law_cell_at : Has M false 1 "_law_cell_at" ["_law_script", "_law_k"] m__law_cell_at) (h__law_draw : Has M false 2 "_law_draw" ["_law_pen", "_law_many"] m__law_draw) (h__law_joints : Has M false 3 "_law_joints" ["_law_pen"] m__law_joints) (h__law_one_right : Has M false 9 "_law_one_right" ["_law_row_here", "_law_joints_here"] m__law_one_right) (h__law_pen_of : Has M false 1 "_law_pen_of" ["_law_cell"] m__law_pen_of) (h__law_row : Has M false 4 "_law_row" ["_law_pen"] m__law_row) (h__law_rows_right : Has M false 9 "_law_rows_right" ["_law_rows"] m__law_rows_right) (h_apart : Has M false 8 "apart" ["one", "other"] m_apart) (h_first_over : Has M false 8 "first_over" ["rows"] m_first_over) (h_is_row : Has M false 6 "is_row" ["thing"] m_is_row) (c : Cxt M X B_law 9) : DB X (defBody s_law) d_law :=
    (db_cons (ds_for c [1] (di_seq (de_bin o_add (de_lst (da_cons (de_fn c (h__law_cell_at.up (by decide)) 0 rfl (da_cons (de_var c 0 rfl (by decide)) (da_cons de_int da_nil))) da_nil)) (de_slice (de_var c 0 rfl (by decide)) (do_some de_int) (do_some de_int)))) (dg_name c [1] 1 rfl (by decide) (by decide))
    (db_wp [1, 2, 3, 4, 5, 6] (db_cons (ds_set c 2 rfl (by decide) (de_fn c (h__law_pen_of.up (by decide)) 1 rfl (da_cons (de_var c 1 rfl (by decide)) da_nil)))
    (db_cons (ds_set c 3 rfl (by decide) (de_callT (T := "tuple") c c_tup 2 rfl T.z_tuple (by decide +kernel) (da_cons (de_lc c (lc_ok c [(".0", 7), ("_law_turn", 8)] [7, 8, 2] [7, 8] ["_law_row"] ["_law_pen"] (by decide +kernel) (di_range1 c 3 rfl T.z_range (da_cons (de_bin o_add de_int (de_fn c (h__law_draw.up (by decide)) 4 rfl (da_cons (de_var c 2 rfl (by decide)) (da_cons de_int da_nil)))) da_nil)) (by decide) (fun _ c23 => (dg_name c23 [7, 8] 8 rfl (by decide) (by decide))) (fun _ c23 => dts_nil) (fun _ c23 => (de_fn c23 (h__law_row.up (by decide)) 0 rfl (da_cons (de_var c23 2 rfl (by decide)) da_nil))))) da_nil)))
    (db_cons (ds_set c 4 rfl (by decide) (de_fn c (h__law_joints.up (by decide)) 5 rfl (da_cons (de_var c 2 rfl (by decide)) da_nil)))
    (db_cons (ds_if (dt_not (dt_val (de_callB (id := "all") c (c_all c.calm) 6 rfl T.z_all (by decide +kernel) (da_cons (de_lc c (lc_ok c [(".0", 7), ("_law_row_here", 9)] [7, 9, 4] [7, 9] ["is_row", "_law_one_right"] ["_law_joints_here"] (by decide +kernel) (di_seq (de_var c 3 rfl (by decide))) (by decide) (fun _ c24 => (dg_name c24 [7, 9] 9 rfl (by decide) (by decide))) (fun _ c24 => dts_nil) (fun _ c24 => (de_and (de_fn c24 (h_is_row.up (by decide)) 0 rfl (da_cons (de_var c24 9 rfl (by decide)) da_nil)) (de_one (de_fn c24 (h__law_one_right.up (by decide)) 1 rfl (da_cons (de_var c24 9 rfl (by decide)) (da_cons (de_var c24 4 rfl (by decide)) da_nil)))))))) da_nil)))) (db_one (ds_ret de_bl)) db_nil)
    (db_cons (ds_if (dt_not (dt_val (de_fn c (h__law_rows_right.up (by decide)) 7 rfl (da_cons (de_var c 3 rfl (by decide)) da_nil)))) (db_one (ds_ret de_bl)) db_nil)
    (db_one (ds_for c [5] (di_seq (de_slice (de_var c 3 rfl (by decide)) (do_some de_int) do_no)) (dg_name c [5] 5 rfl (by decide) (by decide))
    (db_wp [5, 6] (db_cons (ds_if (dt_cmp (o_ne c.roomH) (de_fn c (h_apart.up (by decide)) 8 rfl (da_cons (de_ix c.roomH (de_var c 3 rfl (by decide)) de_int (fun _ _ => rfl)) (da_cons (de_var c 5 rfl (by decide)) da_nil))) (de_fn c (h_apart.up (by decide)) 8 rfl (da_cons (de_var c 5 rfl (by decide)) (da_cons (de_ix c.roomH (de_var c 3 rfl (by decide)) de_int (fun _ _ => rfl)) da_nil))) (nomark _)) (db_one (ds_ret de_bl)) db_nil)
    (db_one (ds_if (dt_cmp (o_gt c.roomH) (de_fn c (h_apart.up (by decide)) 8 rfl (da_cons (de_ix c.roomH (de_var c 3 rfl (by decide)) de_int (fun _ _ => rfl)) (da_cons (de_var c 5 rfl (by decide)) da_nil))) de_int (nomark _)) (db_cons (ds_set c 6 rfl (by decide) (de_fn c (h_first_over.up (by decide)) 9 rfl (da_cons (de_tup (da_cons (de_ix c.roomH (de_var c 3 rfl (by decide)) de_int (fun _ _ => rfl)) (da_cons (de_var c 5 rfl (by decide)) da_nil))) da_nil)))
    (db_one (ds_if (DW.dt (dw_and (dt_cmp o_ntN (de_var c 6 rfl (by decide)) de_non (nomark _)) (dw_and1 (dt_cmp (o_ne c.roomH) (de_ix c.roomH (de_var c 6 rfl (by decide)) de_int (fun _ _ => rfl)) (de_ix c.roomH (de_var c 6 rfl (by decide)) de_int (fun _ _ => rfl)) (nomark _))))) (db_one (ds_ret de_bl)) db_nil))) db_nil)))))))))))))
    (db_one (ds_ret de_bl)))
end
section
variable [Tbl]
theorem r_cell_at (ns : List Int) (k : Nat) (st : Sto) : m__law_cell_at [.d (.list (ns.map .int)), .d (.int (k : Nat))] st = .ok (.d (.int (ns.getD k 0))) st := by
  unfold m__law_cell_at d__law_cell_at
  by_cases h : k < ns.length
  · have h2 : (k : Int) < ns.length := by omega
    simp [h2, atD_nat, h]
  · have h2 : ¬ (k : Int) < ns.length := by omega
    simp [h2, h]
theorem big_l {i j : Int} (h : 0 ≤ i) (h2 : i < 2147483648) : bigOk i j = true := by
  unfold bigOk
  rw [decide_eq_true (show i.natAbs < 18446744073709551616 by omega)]
  rfl
def nxI (s : Int) : Int := (((s + 7919) % 2147483647) * ((s + 7919) % 2147483647) + 48271 * ((s + 7919) % 2147483647) + 12345) % 2147483629
theorem r_next (s : Int) (st : Sto) : m__law_next [.d (.int s)] st = .ok (.d (.int (nxI s))) st := by
  unfold m__law_next d__law_next
  have h1 : 0 ≤ (s + 7919) % 2147483647 := by omega
  have h2 : (s + 7919) % 2147483647 < 2147483648 := by omega
  simp [big_l h1 h2, big_l (i := 48271) (by decide) (by decide), nxI]
theorem r_pen_of (c : Int) (st : Sto) : ∃ a b d : Int, m__law_pen_of [.d (.int c)] st = .ok (.r st.length) (st ++ [.lst [.int a, .int b, .int d]]) := by
  unfold m__law_pen_of d__law_pen_of
  simp [newW]
theorem r_draw {p : Nat} {st : Sto} (n : Int) (h : Pen p st) (h0 : 0 < n) (h1 : n < 1606938044258990275541962092341162602522202993782792835301376) : ∃ (v : Int) (st' : Sto), m__law_draw [.r p, .d (.int n)] st = .ok (.d (.int v)) st' ∧ 0 ≤ v ∧ v < n ∧ Pn p st st' := by
  obtain ⟨a, b, c, e⟩ := id h
  have hp : p < st.length := (List.getElem?_eq_some_iff.mp e).1
  have dv : ∀ i, divD (.int i) (.int n) = some (.int (i / n)) := fun i => divD_ok h0 h1
  have d64 : ∀ i, divD (.int i) (.int 64) = some (.int (i / 64)) := fun i => rfl
  unfold m__law_draw d__law_draw
  have ix0 : ixN 3 0 = some 0 := rfl
  have ix2 : ixN 3 2 = some 2 := rfl
  by_cases q : b = 1 ∧ 0 < a
  · obtain ⟨rfl, q2⟩ := q
    refine ⟨a % n, st.set p (.lst [.int (a / n), .int 1, .int c]), ?_, Int.emod_nonneg _ (by omega), Int.emod_lt_of_pos a h0, .set h _ _ _⟩
    have hl : (st.set p (.lst [.int (a / n), .int 1, .int c])).length = st.length := by simp
    simp [-o_div_i, look1_l e, q2, h0, dv, sixW, setW_l e (t := 0) (q := 0) rfl]
  · have hs : ∀ x, (st.set p (.lst [.int a, .int b, .int x]))[p]? = some (.lst [.int a, .int b, .int x]) := fun x => List.getElem?_set_self hp
    refine ⟨nxI (nxI c + 7) / 64 % n, st.set p (.lst [.int a, .int b, .int (nxI (nxI c + 7))]), ?_, Int.emod_nonneg _ (by omega), Int.emod_lt_of_pos _ h0, .set h _ _ _⟩
    simp [-o_div_i, look1_l e, q, h0, d64, sixW, setW_l e (t := 2) (q := 2) rfl, r_next, look1_l (hs _)]
/-- the law's own loop over the cells, all other slots given up behind each -/
theorem outer_w {body : En → Sto → SR} {n : Nat} {K : Int} (turn : ∀ (sc : Wv) (c : Int) (st : Sto), ∃ st', body (some sc :: some (.d (.int c)) :: List.replicate n none) st = .nx (some sc :: List.replicate (n + 1) none) st') (ns : List Int) (h : ns.length ≤ 63) :
    ∃ st, mkF 1 (n + 2) (sSeq (sFor (cSeq (eOp2 addD (eLst (aCons (eCall m__law_cell_at (aCons (eVar 0) (aCons (eK (.int 0)) aNil))) aNil)) (eSlice (eVar 0) (pSome (eK (.int 1))) (pSome (eK (.int K)))))) (gN 1) body) (sRet (eK (.bool true)))) [.d (.list (ns.map .int))] [] = .ok (.d (.bool true)) st := by
  have e0 := r_cell_at ns 0 []
  have ec : cutD (ns.map PyData.int) (some 1) (some K) = (cutD ns (some 1) (some K)).map .int := by unfold cutD; simp
  obtain ⟨env, st, e1, rfl⟩ := forL_go (g := gN 1) (b := body) (fun env _ => env = some (.d (.list (ns.map .int))) :: List.replicate (n + 1) none) (.int (ns.getD 0 0) :: (cutD ns (some 1) (some K)).map .int) (fun x hx env st hI => by
    subst hI
    obtain ⟨i, rfl⟩ : ∃ i, x = .int i := by
      rcases List.mem_cons.mp hx with rfl | q
      · exact ⟨_, rfl⟩
      · obtain ⟨i, _, rfl⟩ := List.mem_map.mp q
        exact ⟨i, rfl⟩
    obtain ⟨st', e⟩ := turn (.d (.list (ns.map .int))) i st
    exact ⟨_, _, _, rfl, e, rfl⟩) (some (.d (.list (ns.map .int))) :: List.replicate (n + 1) none) [] rfl
  have hl : (cutD ns (some 1) (some K)).length ≤ 63 := Nat.le_trans cutD_len h
  have e0' : m__law_cell_at [.d (.list (ns.map .int)), .d (.int 0)] [] = .ok (.d (.int (ns.getD 0 0))) [] := e0
  refine ⟨[], ?_⟩
  generalize ns.getD 0 0 = c0 at *
  have hl2 : (cutD ns (some 1) (some K)).length + 1 ≤ 1000000 := by omega
  have e2 : List.replicate (n + 2 - 1) (none : Option Wv) = List.replicate (n + 1) none := rfl
  simp [e0', lstW, ec, Nat.add_comm 1, hl2, srcW, e2]
  simp at e1
  simp [e1]
end
section
variable [Tbl]
/-! ## paths: the program's look at them -/
def isWhole : PyData → Bool
  | .int _ => true
  | _ => false
def isFT (d : PyData) (a b : Int) : Bool := match d with
  | .int i => decide (a ≤ i) && decide (i ≤ b)
  | _ => false
theorem r_is_whole (d : PyData) (st : Sto) : m_is_whole [.d d] st = .ok (.d (.bool (isWhole d))) st := by
  unfold m_is_whole d_is_whole
  cases d <;> simp [isWhole]
theorem r_is_from_to (d : PyData) (a b : Int) (st : Sto) : m_is_from_to [.d d, .d (.int a), .d (.int b)] st = .ok (.d (.bool (isFT d a b))) st := by
  unfold m_is_from_to d_is_from_to
  cases d <;> simp [isFT, isWhole, r_is_whole]
def wayB (w : Str) : Bool := ([.str "east", .str "north", .str "west", .str "south"] : List PyData).any fun y => PyData.eqv y (.str w)
theorem wayB_iff (w : Str) : wayB w = true ↔ w ∈ y_WAYS := by
  simp only [wayB, y_WAYS, List.any_cons, List.any_nil, PyData.eqv, Bool.or_false, Bool.or_eq_true, beq_iff_eq, List.mem_cons, List.not_mem_nil, or_false]
  constructor
  · rintro (h | h | h | h) <;> simp only [h, true_or, or_true]
  · rintro (h | h | h | h) <;> simp only [h, true_or, or_true]
theorem ni_ways (w : Str) : niD (.str w) w_WAYS = some (.bool (!wayB w)) := rfl
def isLeg : PyData → Bool
  | .tuple [.str w, x] => wayB w && isFT x 1 60
  | _ => false
theorem r_is_leg (d : PyData) (st : Sto) : m_is_leg [.d d] st = .ok (.d (.bool (isLeg d))) st := by
  unfold m_is_leg d_is_leg
  cases d with
  | tuple xs =>
    match xs with
    | [] => simp [isLeg]
    | [a] => simp [isLeg]
    | [a, b] =>
      cases a with
      | str w => cases h : wayB w <;> simp [isLeg, ni_ways, r_is_from_to, w_MOST_LONG, h]
      | _ => simp [isLeg]
    | a :: b :: c :: r =>
      have h : ¬ ((r.length : Int) + 1 + 1 + 1 = 2) := by omega
      simp [isLeg, h]
  | _ => simp [isLeg]
theorem idx_ways {w : Str} (h : w ∈ y_WAYS) : ∃ i : Nat, idxS y_WAYS w = some i ∧ i < 4 ∧ (decide (w ∈ (["east", "west"] : List Str)) = decide (i % 2 = 0)) := by
  simp only [y_WAYS, List.mem_cons, List.not_mem_nil, or_false] at h
  rcases h with rfl | rfl | rfl | rfl
  · exact ⟨0, by decide +kernel, by decide, by decide +kernel⟩
  · exact ⟨1, by decide +kernel, by decide, by decide +kernel⟩
  · exact ⟨2, by decide +kernel, by decide, by decide +kernel⟩
  · exact ⟨3, by decide +kernel, by decide, by decide +kernel⟩
theorem r_quarter {a b : Str} {i j : Nat} (ha : idxS y_WAYS a = some i) (hb : idxS y_WAYS b = some j) (st : Sto) : m_quarter [.d (.str a), .d (.str b)] st = .ok (.d (.int (((j : Int) - i) % 4))) st := by
  unfold m_quarter d_quarter
  simp [gixW, ha, hb]
def flatS (w : Str) : Bool := decide (w ∈ (["east", "west"] : List Str))
def turnB : PyData → Bool
  | .tuple [.tuple (.str a :: _), .tuple (.str b :: _)] => flatS a != flatS b
  | _ => false
def pairsOf (legs : List PyData) : List PyData := List.zipWith pairD legs (legs.drop 1)
def isPath : PyData → Bool
  | .tuple [x, y, .tuple legs] => isFT x (-1000) 1000 && (isFT y (-1000) 1000 && (decide (1 ≤ legs.length) && (decide (legs.length ≤ 6) && (legs.all isLeg && (pairsOf legs).all turnB))))
  | _ => false
theorem isLeg_is {d : PyData} (h : isLeg d = true) : ∃ (w : Str) (x : PyData), d = .tuple [.str w, x] ∧ w ∈ y_WAYS ∧ isFT x 1 60 = true := by
  unfold isLeg at h
  split at h
  · rename_i w x
    rw [Bool.and_eq_true] at h
    exact ⟨w, x, rfl, (wayB_iff w).mp h.1, h.2⟩
  · cases h
theorem pairs_mem {legs : List PyData} {d : PyData} (h : d ∈ pairsOf legs) : ∃ a b, a ∈ legs ∧ b ∈ legs ∧ d = pairD a b := by
  unfold pairsOf at h
  obtain ⟨i, hi⟩ := List.getElem?_of_mem h
  rw [List.getElem?_zipWith] at hi
  cases ea : legs[i]? with
  | none => rw [ea] at hi; cases hi
  | some a =>
    cases eb : (legs.drop 1)[i]? with
    | none => rw [ea, eb] at hi; cases hi
    | some b =>
      rw [ea, eb] at hi
      exact ⟨a, b, List.mem_of_getElem? ea, List.mem_of_mem_drop (List.mem_of_getElem? eb), (Option.some.inj hi).symm⟩
theorem in_13 (q : Int) : inD (.int q) (.tuple [.int 1, .int 3]) = some (.bool ((1 == q) || ((3 == q) || false))) := rfl
theorem turn_ways {a b : Str} {i j : Nat} (hi : i < 4) (hj : j < 4) (ha : flatS a = decide (i % 2 = 0)) (hb : flatS b = decide (j % 2 = 0)) : (((1 : Int) == ((j : Int) - i) % 4) || (((3 : Int) == ((j : Int) - i) % 4) || false)) = (flatS a != flatS b) := by
  rw [ha, hb]
  have hi' : i = 0 ∨ i = 1 ∨ i = 2 ∨ i = 3 := by omega
  have hj' : j = 0 ∨ j = 1 ∨ j = 2 ∨ j = 3 := by omega
  rcases hi' with rfl | rfl | rfl | rfl <;> rcases hj' with rfl | rfl | rfl | rfl <;> decide
theorem r_is_path (d : PyData) (st : Sto) : m_is_path [.d d] st = .ok (.d (.bool (isPath d))) st := by
  unfold m_is_path d_is_path
  cases d with
  | tuple xs =>
    match xs with
    | [] => simp [isPath]
    | [a] => simp [isPath]
    | [a, b] => simp [isPath]
    | [a, b, c] =>
      cases c with
      | tuple legs =>
        have e1 := lcL_map (g := gN 4) (c := eCall m_is_leg (aCons (eVar 4) aNil)) (env := [some (.d (.tuple [a, b, .tuple legs])), none, none, none, none]) (st := st) (f := fun x => .bool (isLeg x)) legs [] fun x hx => ⟨_, rfl, by simp [r_is_leg]⟩
        cases ha : isFT a (-1000) 1000 with
        | false => simp [isPath, r_is_from_to, w_MOST_FAR, ha]
        | true =>
        cases hb : isFT b (-1000) 1000 with
        | false => simp [isPath, r_is_from_to, w_MOST_FAR, ha, hb]
        | true =>
        by_cases h1 : 1 ≤ legs.length ∧ legs.length ≤ 6
        · have h2 : (1 : Int) ≤ legs.length := by omega
          have h3 : (legs.length : Int) ≤ 6 := by omega
          have h5 : legs.length ≤ 1000000 := by omega
          have h6 : (pairsOf legs).length ≤ 1000000 := by unfold pairsOf; simp; omega
          cases hl : legs.all isLeg with
          | false => simp [isPath, r_is_from_to, w_MOST_FAR, w_MOST_LEGS, ha, hb, h1, h2, h3, h5, hl, srcW, wipeE, e1, o_all']
          | true =>
            have e2 := lcL_map (g := gTp (gCn (gN 2) (gCn (gN 3) gNl))) (c := eOp2 inD (eCall m_quarter (aCons (eOp2 ixD (eVar 2) (eK (.int 0))) (aCons (eOp2 ixD (eVar 3) (eK (.int 0))) aNil))) (eTup (aCons (eK (.int 1)) (aCons (eK (.int 3)) aNil)))) (env := [some (.d (.tuple [a, b, .tuple legs])), none, none, none, none]) (st := st) (f := fun x => .bool (turnB x)) (pairsOf legs) [] fun x hx => by
              obtain ⟨p, q, hp, hq, rfl⟩ := pairs_mem hx
              obtain ⟨u, x1, rfl, hu, _⟩ := isLeg_is ((List.all_eq_true.mp hl) p hp)
              obtain ⟨v, x2, rfl, hv, _⟩ := isLeg_is ((List.all_eq_true.mp hl) q hq)
              obtain ⟨i, ei, hi, fi⟩ := idx_ways hu
              obtain ⟨j, ej, hj, fj⟩ := idx_ways hv
              refine ⟨_, rfl, ?_⟩
              have tw := turn_ways hi hj fi fj
              simp [pairD, turnB, r_quarter ei ej, tupW, in_13]
              simpa using tw
            have e3 : cutD legs (some 1) none = legs.drop 1 := cutD_drop legs 1
            have e4 : List.zipWith pairD legs legs.tail = pairsOf legs := by unfold pairsOf; rw [List.drop_one]
            have h7 : legs.length ≤ 1000001 := by omega
            simp [isPath, r_is_from_to, w_MOST_FAR, w_MOST_LEGS, ha, hb, h1, h2, h3, h5, hl, srcW, wipeE, e1, o_all', zip2W, e3, e4, e2, h6, h7]
        · have h2 : ¬ ((1 : Int) ≤ legs.length ∧ (legs.length : Int) ≤ 6) := by omega
          have h3 : (legs.length : Int) < 1 ∨ 6 < (legs.length : Int) := by omega
          have h4 : ∀ z, (decide (1 ≤ legs.length) && (decide (legs.length ≤ 6) && z)) = false := fun z => by
            by_cases q : 1 ≤ legs.length
            · rw [decide_eq_false (show ¬ legs.length ≤ 6 by omega)]; simp
            · rw [decide_eq_false q]; rfl
          simp [isPath, r_is_from_to, w_MOST_FAR, w_MOST_LEGS, ha, hb, h3, h4]
      | _ => simp [isPath]
    | a :: b :: c :: d :: r =>
      have h : ¬ ((r.length : Int) + 1 + 1 + 1 + 1 = 3) := by omega
      simp [isPath, h]
  | _ => simp [isPath]
/-! ## paths by their legs -/
def wayS : Nat → Str
  | 0 => "east"
  | 1 => "north"
  | 2 => "west"
  | _ => "south"
def dx : Nat → Int
  | 0 => 1
  | 2 => -1
  | _ => 0
def dy : Nat → Int
  | 1 => 1
  | 3 => -1
  | _ => 0
abbrev Lgs := List (Nat × Int)
def lgD (l : Nat × Int) : PyData := .tuple [.str (wayS l.1), .int l.2]
def ptD (x y : Int) (lg : Lgs) : PyData := .tuple [.int x, .int y, .tuple (lg.map lgD)]
def wy (lg : Lgs) (k : Nat) : Nat := ((lg[k]?).getD (0, 0)).1
def ln (lg : Lgs) (k : Nat) : Int := ((lg[k]?).getD (0, 0)).2
def tq (lg : Lgs) (k : Nat) : Nat := (wy lg (k + 1) + 4 - wy lg k) % 4
structure Pt (x y : Int) (lg : Lgs) : Prop where
  x : -1000 ≤ x ∧ x ≤ 1000
  y : -1000 ≤ y ∧ y ≤ 1000
  n : 1 ≤ lg.length ∧ lg.length ≤ 6
  ok : ∀ l ∈ lg, l.1 < 4 ∧ 1 ≤ l.2 ∧ l.2 ≤ 60
  t : ∀ k, k + 1 < lg.length → tq lg k = 1 ∨ tq lg k = 3
theorem lg_at {lg : Lgs} {k : Nat} (h : k < lg.length) : lg[k] = (wy lg k, ln lg k) := by
  unfold wy ln
  rw [List.getElem?_eq_getElem h]
  rfl
theorem Pt.k {x y : Int} {lg : Lgs} (P : Pt x y lg) {k : Nat} (h : k < lg.length) : wy lg k < 4 ∧ 1 ≤ ln lg k ∧ ln lg k ≤ 60 := by
  have := P.ok _ (List.getElem_mem h)
  rw [lg_at h] at this
  exact this
theorem w4 {w : Nat} (h : w < 4) : w = 0 ∨ w = 1 ∨ w = 2 ∨ w = 3 := by omega
theorem idx_way {w : Nat} (h : w < 4) : idxS y_WAYS (wayS w) = some w := by
  rcases w4 h with rfl | rfl | rfl | rfl <;> decide +kernel
theorem wayB_way (w : Nat) : wayB (wayS w) = true := by
  unfold wayS; split <;> rfl
theorem flat_way {w : Nat} (h : w < 4) : flatS (wayS w) = decide (w % 2 = 0) := by
  rcases w4 h with rfl | rfl | rfl | rfl <;> decide +kernel
theorem ways_at {w : Nat} (h : w < 4) : atD [PyData.str "east", .str "north", .str "west", .str "south"] (w : Int) = some (.str (wayS w)) := by
  rcases w4 h with rfl | rfl | rfl | rfl <;> rfl
theorem Pt.isPath {x y : Int} {lg : Lgs} (P : Pt x y lg) : isPath (ptD x y lg) = true := by
  have h1 := P.x
  have h2 := P.y
  have h3 := P.n
  unfold ptD PV.isPath
  simp only [isFT, Bool.and_eq_true, decide_eq_true_eq, List.length_map, List.all_eq_true]
  refine ⟨h1, h2, h3.1, h3.2, fun d hd => ?_, fun d hd => ?_⟩
  · obtain ⟨l, hl, rfl⟩ := List.mem_map.mp hd
    have := P.ok l hl
    simp only [lgD, isLeg, wayB_way, isFT, Bool.true_and, Bool.and_eq_true, decide_eq_true_eq]
    exact this.2
  · unfold pairsOf at hd
    obtain ⟨i, hi⟩ := List.getElem?_of_mem hd
    rw [List.getElem?_zipWith] at hi
    by_cases q : i + 1 < lg.length
    · have a1 : (lg.map lgD)[i]? = some (lgD (wy lg i, ln lg i)) := by rw [List.getElem?_map, List.getElem?_eq_getElem (by omega), lg_at]; rfl
      have a2 : ((lg.map lgD).drop 1)[i]? = some (lgD (wy lg (i + 1), ln lg (i + 1))) := by rw [List.getElem?_drop, Nat.add_comm 1 i, List.getElem?_map, List.getElem?_eq_getElem q, lg_at]; rfl
      rw [a1, a2] at hi
      cases hi
      have t := P.t i q
      have k1 := (P.k (show i < lg.length by omega)).1
      have k2 := (P.k q).1
      unfold tq at t
      show (flatS (wayS (wy lg i)) != flatS (wayS (wy lg (i + 1)))) = true
      rw [flat_way k1, flat_way k2]
      rw [bne_iff_ne, ne_eq, decide_eq_decide]
      omega
    · have a2 : ((lg.map lgD).drop 1)[i]? = none := by rw [List.getElem?_eq_none]; simp; omega
      rw [a2] at hi
      cases e : (lg.map lgD)[i]? <;> rw [e] at hi <;> cases hi
end
section
variable [Tbl]
theorem wy_lt {lg r : Lgs} {k : Nat} (h : k < lg.length) : wy (lg ++ r) k = wy lg k := by unfold wy; rw [List.getElem?_append_left h]
theorem wy_at {lg : Lgs} {p : Nat × Int} : wy (lg ++ [p]) lg.length = p.1 := by unfold wy; simp
def PathI (p n : Nat) (st : Sto) (v1 : Int) (v2 : Wv) (k : Nat) (env : En) (st' : Sto) : Prop := ∃ (v : Nat) (lg : Lgs) (z : Option Wv),
  env = [some (.r p), some (.d (.int v1)), some v2, some (.d (.list [.str "east", .str "north", .str "west", .str "south"])), some (.d (.int (v : Int))), some (.r n), z] ∧ v < 4 ∧
  st'[n]? = some (.lst (lg.map lgD)) ∧ lg.length = k ∧ (∀ l ∈ lg, l.1 < 4 ∧ 1 ≤ l.2 ∧ l.2 ≤ 60) ∧ (∀ j, j + 1 < k → tq lg j = 1 ∨ tq lg j = 3) ∧ (∀ j, j + 1 = k → (v + 4 - wy lg j) % 4 = 1 ∨ (v + 4 - wy lg j) % 4 = 3) ∧ Px p n st st'
theorem path_turn {p n : Nat} {st : Sto} {v1 : Int} {v2 : Wv} (hp : p < n) (h1 : 0 ≤ v1) (h2 : v1 < 3) {k : Nat} (hk : k < 6) {env : En} {st' : Sto} (x : PyData) (h : PathI p n st v1 v2 k env st') :
    ∃ env1 env2 st2, gN 6 (.d x) env = some env1 ∧ d__law_path_l1 env1 st' = .nx env2 st2 ∧ PathI p n st v1 v2 (k + 1) env2 st2 := by
  obtain ⟨v, lg, z, rfl, a, e, hl, ok, ch, nx, px⟩ := h
  have ew := ways_at a
  obtain ⟨m, hm, em⟩ := atD_mem (xs := [PyData.int 6, .int 20, .int 60]) h1 (by simpa using h2)
  obtain ⟨m, rfl, m1, m2⟩ : ∃ u, m = .int u ∧ 0 < u ∧ u ≤ 60 := by
    simp at hm
    rcases hm with rfl | rfl | rfl <;> exact ⟨_, rfl, by decide, by decide⟩
  obtain ⟨u1, st1, e1, a1, b1, c1⟩ := r_draw m px.pen m1 (by omega)
  have n1 : st1[n]? = some (.lst (lg.map lgD)) := by rw [c1.sm n (by omega)]; exact e
  have hn : n < st1.length := (List.getElem?_eq_some_iff.mp n1).1
  have el : lg.map lgD ++ [.tuple [.str (wayS v), .int (1 + u1)]] = (lg ++ [(v, 1 + u1)]).map lgD := by rw [List.map_append]; rfl
  have px1 := (px.pn c1).put (i := n) (Nat.le_refl _) hp (.lst ((lg ++ [(v, 1 + u1)]).map lgD))
  obtain ⟨u2, st2, e2, a2, b2, c2⟩ := r_draw 2 px1.pen (by decide) (by decide)
  have ap := appW_l n1 (by rw [List.length_map]; omega) (.tuple [.str (wayS v), .int (1 + u1)])
  rw [el] at ap
  obtain ⟨q, hq⟩ : ∃ q : Nat, ((v : Int) + 1 + 2 * u2) % 4 = (q : Int) := ⟨(((v : Int) + 1 + 2 * u2) % 4).toNat, by omega⟩
  refine ⟨_, [some (.r p), some (.d (.int v1)), some v2, some (.d (.list [.str "east", .str "north", .str "west", .str "south"])), some (.d (.int (q : Int))), some (.r n), some (.d x)], st2, rfl, ?_, ?_⟩
  · have il := isLst_l e
    generalize (lg ++ [(v, 1 + u1)]).map lgD = F at *
    unfold d__law_path_l1
    simp [il, ew, em, lstW, tupW, e1, ap, e2, big_l (i := 2) (by decide) (by decide), hq]
  · refine ⟨q, lg ++ [(v, 1 + u1)], some (.d x), rfl, by omega, ?_, by simp [hl], ?_, fun j hj => ?_, fun j hj => ?_, px1.pn c2⟩
    · rw [c2.sm n (by omega)]
      exact List.getElem?_set_self hn
    · intro l hl
      rcases List.mem_append.mp hl with q | q
      · exact ok l q
      · rw [List.mem_singleton.mp q]
        exact ⟨a, by omega, by omega⟩
    · unfold tq
      by_cases q2 : j + 1 < k
      · rw [wy_lt (by omega), wy_lt (by omega)]
        exact ch j q2
      · have ej : j + 1 = lg.length := by omega
        rw [ej, wy_at, wy_lt (by omega)]
        exact nx j (by omega)
    · have ej : j = lg.length := by omega
      rw [ej, wy_at]
      have : u2 = 0 ∨ u2 = 1 := by omega
      show (q + 4 - v) % 4 = 1 ∨ (q + 4 - v) % 4 = 3
      omega
theorem r_path {p : Nat} {st : Sto} (h : Pen p st) : ∃ (x y : Int) (lg : Lgs) (st' : Sto), m__law_path [.r p] st = .ok (.d (ptD x y lg)) st' ∧ (-30 ≤ x ∧ x ≤ 30 ∧ -30 ≤ y ∧ y ≤ 30) ∧ Pt x y lg ∧ Pn p st st' := by
  have hp := h.lt
  unfold m__law_path d__law_path
  obtain ⟨v1, st1, e1, a1, b1, c1⟩ := r_draw 3 h (by decide) (by decide)
  obtain ⟨v2, st2, e2, a2, b2, c2⟩ := r_draw 6 c1.pen (by decide) (by decide)
  obtain ⟨v3, st3, e3, a3, b3, c3⟩ := r_draw 4 c2.pen (by decide) (by decide)
  obtain ⟨v3, rfl⟩ := Int.eq_ofNat_of_zero_le a3
  have c13 := (c1.trans c2).trans c3
  have px := c13.px.app [.lst []]
  obtain ⟨env, st4, e4, v, lg, z, rfl, _, el, hl, ok, ch, _, px4⟩ := forL_goI (g := gN 6) (b := d__law_path_l1) (PathI p st.length st v1 (.d (.int (1 + v2)))) (rangeD 0 (1 + v2).toNat) 0 (fun i x hx env st' hI => by
    have := (rangeD_get hx).1
    rw [Nat.zero_add] at hI ⊢
    exact path_turn hp a1 b1 (by omega) x hI) [some (.r p), some (.d (.int v1)), some (.d (.int (1 + v2))), some (.d (.list [.str "east", .str "north", .str "west", .str "south"])), some (.d (.int (v3 : Int))), some (.r st3.length), none] (st3 ++ [.lst []])
    ⟨v3, [], none, by rw [c13.len], by omega, by rw [← c13.len]; simp, rfl, fun l hl => absurd hl List.not_mem_nil, fun j hj => by omega, fun j hj => by omega, px⟩
  obtain ⟨v5, st5, e5, a5, b5, c5⟩ := r_draw 61 px4.pen (by decide) (by decide)
  obtain ⟨v6, st6, e6, a6, b6, c6⟩ := r_draw 61 c5.pen (by decide) (by decide)
  have c56 := c5.trans c6
  have el6 : st6[st.length]? = some (.lst (lg.map lgD)) := by rw [c56.sm _ (by omega)]; exact el
  rw [rangeD_len, Nat.zero_add] at hl ch
  refine ⟨v5 - 30, v6 - 30, lg, st6.take st.length, ?_, by omega, ⟨by omega, by omega, by omega, ok, fun k hk => ch k (by omega)⟩, (px4.pn c56).back hp⟩
  unfold ptD
  simp [e1, e2, e3, lstW, newW, rg1_ok (i := 1 + v2) _ (by omega) (by omega), e4, e5, e6, look_l el6, looks, tupW]
/-! ## the program's looks -/
theorem r_quart {i j : Nat} (hi : i < 4) (hj : j < 4) (st : Sto) : m_quarter [.d (.str (wayS i)), .d (.str (wayS j))] st = .ok (.d (.int (((j + 4 - i) % 4 : Nat) : Int))) st := by
  rw [r_quarter (idx_way hi) (idx_way hj), show ((j : Int) - i) % 4 = (((j + 4 - i) % 4 : Nat) : Int) from by omega]
theorem steps_at {w : Nat} (h : w < 4) : ixD w_STEPS (.int (w : Int)) = some (.tuple [.int (dx w), .int (dy w)]) := by
  rcases w4 h with rfl | rfl | rfl | rfl <;> rfl
theorem r_gone {w : Nat} (hw : w < 4) {f : Int} (hf : 0 ≤ f ∧ f < 1000000) (x y : Int) (st : Sto) : m_gone [.d (.int x), .d (.int y), .d (.str (wayS w)), .d (.int f)] st = .ok (.d (.tuple [.int (x + f * dx w), .int (y + f * dy w)])) st := by
  have e := idx_way hw
  have s := steps_at hw
  have b := fun j => big_l (i := f) (j := j) hf.1 (by omega)
  unfold m_gone d_gone
  simp [gixW, e, s, b, tupW]
def px (lg : Lgs) (x : Int) : Nat → Int
  | 0 => x
  | k + 1 => px lg x k + ln lg k * dx (wy lg k)
def py (lg : Lgs) (y : Int) : Nat → Int
  | 0 => y
  | k + 1 => py lg y k + ln lg k * dy (wy lg k)
def fr (lg : Lgs) : Nat → Int
  | 0 => 0
  | k + 1 => fr lg k + ln lg k
def ppD (lg : Lgs) (x y : Int) (k : Nat) : PyData := .tuple [.int (px lg x k), .int (py lg y k)]
theorem rng_succ {α : Type} (f : Nat → α) (i : Nat) : (List.range (i + 1)).map f = (List.range i).map f ++ [f i] := by rw [List.range_succ, List.map_append]; rfl
theorem cut2 (x y z : PyData) : cutD [x, y, z] none (some 2) = [x, y] := rfl
theorem lg_get {lg : Lgs} {i : Nat} {d : PyData} (h : (lg.map lgD)[i]? = some d) : i < lg.length ∧ d = .tuple [.str (wayS (wy lg i)), .int (ln lg i)] := by
  rw [List.getElem?_map] at h
  obtain ⟨l, hl, rfl⟩ := Option.map_eq_some_iff.mp h
  obtain ⟨hi, rfl⟩ := List.getElem?_eq_some_iff.mp hl
  exact ⟨hi, by rw [lg_at hi]; rfl⟩
theorem r_leg_points {x y : Int} {lg : Lgs} (P : Pt x y lg) (st : Sto) : m_leg_points [.d (ptD x y lg)] st = .ok (.d (.list ((List.range (lg.length + 1)).map (ppD lg x y)))) st := by
  have hn := P.n
  obtain ⟨env, st1, e1, x2, x3, rfl, rfl⟩ := forL_goI (g := gTp (gCn (gN 2) (gCn (gN 3) gNl))) (b := d_leg_points_l1) (fun i env st' => ∃ x2 x3, env = [some (.d (ptD x y lg)), some (.r st.length), x2, x3] ∧ st' = st ++ [.lst ((List.range (i + 1)).map (ppD lg x y))]) (lg.map lgD) 0 (fun i d hd env st' hI => by
    rw [Nat.zero_add] at hI ⊢
    obtain ⟨x2, x3, rfl, rfl⟩ := hI
    obtain ⟨hi, rfl⟩ := lg_get hd
    have hk := P.k hi
    have gt : (st ++ [Ob.lst ((List.range (i + 1)).map (ppD lg x y))])[st.length]? = some (.lst ((List.range (i + 1)).map (ppD lg x y))) := by simp
    have il := isLst_l gt
    have lk := look1_l gt
    have la : atD ((List.range (i + 1)).map (ppD lg x y)) (-1) = some (.tuple [.int (px lg x i), .int (py lg y i)]) := by rw [rng_succ]; exact atD_last _ _
    have go := fun st => r_gone hk.1 (f := ln lg i) (by omega) (px lg x i) (py lg y i) st
    have ap := appW_l gt (by rw [List.length_map, List.length_range]; omega) (ppD lg x y (i + 1))
    rw [← rng_succ] at ap
    refine ⟨_, _, _, rfl, ?_, some (.d (.str (wayS (wy lg i)))), some (.d (.int (ln lg i))), rfl, rfl⟩
    have ep : PyData.tuple [.int (px lg x i + ln lg i * dx (wy lg i)), .int (py lg y i + ln lg i * dy (wy lg i))] = ppD lg x y (i + 1) := rfl
    generalize (List.range (i + 1)).map (ppD lg x y) = R at *
    generalize (List.range (i + 1 + 1)).map (ppD lg x y) = R2 at *
    unfold d_leg_points_l1
    simp -implicitDefEqProofs [il, lk, la, go, ep, ap]) [some (.d (ptD x y lg)), some (.r st.length), none, none] (st ++ [.lst [ppD lg x y 0]]) ⟨none, none, rfl, rfl⟩
  rw [List.length_map, Nat.zero_add] at e1
  have e0 : PyData.tuple [.int x, .int y] = ppD lg x y 0 := rfl
  have gt : (st ++ [Ob.lst ((List.range (lg.length + 1)).map (ppD lg x y))])[st.length]? = some (.lst ((List.range (lg.length + 1)).map (ppD lg x y))) := by simp
  generalize (List.range (lg.length + 1)).map (ppD lg x y) = R at *
  unfold ptD at *
  unfold m_leg_points d_leg_points
  simp -implicitDefEqProofs [cut2, newW, e0, srcW_dt, e1, x_end_fr (Nat.le_refl _) gt]
end
section
variable [Tbl]
/-! ## sides, lengths, points, bends -/
def lf (lg : Lgs) (k : Nat) : Bool := decide (tq lg k = 1)
def sdD (b : Bool) : PyData := .str (if b = true then "left" else "right")
theorem pairs_eq (lg : Lgs) : pairsOf (lg.map lgD) = (List.range (lg.length - 1)).map fun k => pairD (lgD (wy lg k, ln lg k)) (lgD (wy lg (k + 1), ln lg (k + 1))) := by
  refine List.ext_getElem (by unfold pairsOf; simp) fun i h1 h2 => ?_
  have hi : i < lg.length - 1 := by simpa using h2
  unfold pairsOf at h1 ⊢
  rw [List.getElem_zipWith, List.getElem_map, List.getElem_drop, List.getElem_map, List.getElem_map, List.getElem_range]
  rw [lg_at (show i < lg.length by omega), lg_at (show 1 + i < lg.length by omega), Nat.add_comm 1 i]
def qtD : PyData → PyData
  | .tuple [.tuple (.str a :: _), .tuple (.str b :: _)] => match idxS y_WAYS a, idxS y_WAYS b with
    | some i, some j => .int (((j + 4 - i) % 4 : Nat) : Int)
    | _, _ => .none
  | _ => .none
theorem qtD_at {lg : Lgs} {x y : Int} (P : Pt x y lg) {k : Nat} (h : k + 1 < lg.length) : qtD (pairD (lgD (wy lg k, ln lg k)) (lgD (wy lg (k + 1), ln lg (k + 1)))) = .int (tq lg k : Nat) := by
  have k1 := (P.k (show k < lg.length by omega)).1
  have k2 := (P.k h).1
  show (match idxS y_WAYS (wayS (wy lg k)), idxS y_WAYS (wayS (wy lg (k + 1))) with | some i, some j => PyData.int (((j + 4 - i) % 4 : Nat) : Int) | _, _ => .none) = _
  rw [idx_way k1, idx_way k2]
  rfl
def turnD : PyData → PyData
  | .int i => if i = 1 then .str "left" else .str "right"
  | _ => .none
theorem r_bend_sides {x y : Int} {lg : Lgs} (P : Pt x y lg) (st : Sto) : m_bend_sides [.d (ptD x y lg)] st = .ok (.d (.list ((List.range (lg.length - 1)).map fun k => sdD (lf lg k)))) st := by
  have hn := P.n
  have e1 := lcL_map (g := gTp (gCn (gN 3) (gCn (gN 4) gNl))) (c := eCall m_quarter (aCons (eOp2 ixD (eVar 3) (eK (.int 0))) (aCons (eOp2 ixD (eVar 4) (eK (.int 0))) aNil))) (env := [some (.d (ptD x y lg)), none, none, none, none, none]) (st := st) (f := qtD) (pairsOf (lg.map lgD)) [] fun d hd => by
    rw [pairs_eq] at hd
    obtain ⟨k, hk, rfl⟩ := List.mem_map.mp hd
    have hk2 : k + 1 < lg.length := by have := List.mem_range.mp hk; omega
    refine ⟨_, rfl, ?_⟩
    rw [qtD_at P hk2]
    have q := fun st => r_quart (P.k (show k < lg.length by omega)).1 (P.k hk2).1 st
    unfold tq
    simp -implicitDefEqProofs [pairD, lgD, q]
  have e2 := lcL_map (g := gN 5) (c := eIf (tBl (eOp2 eqD (eVar 5) (eK (.int 1)))) (eK (.str "left")) (eK (.str "right"))) (env := [some (.d (ptD x y lg)), some (.d (.list ((pairsOf (lg.map lgD)).map qtD))), none, none, none, none]) (st := st) (f := turnD) ((pairsOf (lg.map lgD)).map qtD) [] fun d hd => by
    rw [pairs_eq, List.map_map] at hd
    obtain ⟨k, hk, rfl⟩ := List.mem_map.mp hd
    have hk2 : k + 1 < lg.length := by have := List.mem_range.mp hk; omega
    refine ⟨_, rfl, ?_⟩
    show (eIf (tBl (eOp2 eqD (eVar 5) (eK (.int 1)))) (eK (.str "left")) (eK (.str "right"))) [some (.d (ptD x y lg)), some (.d (.list ((pairsOf (lg.map lgD)).map qtD))), none, none, none, some (.d (qtD (pairD (lgD (wy lg k, ln lg k)) (lgD (wy lg (k + 1), ln lg (k + 1))))))] st = _
    simp only [Function.comp_apply]
    rw [qtD_at P hk2]
    by_cases z : (tq lg k : Int) = 1
    · simp -implicitDefEqProofs [turnD, z]
    · simp -implicitDefEqProofs [turnD, z]
  have e3 : ((pairsOf (lg.map lgD)).map qtD).map turnD = (List.range (lg.length - 1)).map fun k => sdD (lf lg k) := by
    rw [pairs_eq, List.map_map, List.map_map]
    refine List.map_congr_left fun k hk => ?_
    have hk2 : k + 1 < lg.length := by have := List.mem_range.mp hk; omega
    show turnD (qtD _) = _
    rw [qtD_at P hk2]
    show (if (tq lg k : Int) = 1 then PyData.str "left" else .str "right") = _
    unfold sdD lf
    by_cases z : tq lg k = 1
    · rw [if_pos (by omega), decide_eq_true z]; rfl
    · rw [if_neg (by omega), decide_eq_false z]; rfl
  rw [e3, List.nil_append] at e2
  rw [List.nil_append] at e1
  have c1 : cutD (lg.map lgD) (some 1) none = (lg.map lgD).drop 1 := cutD_drop _ 1
  have z1 : List.zipWith pairD (lg.map lgD) ((lg.map lgD).drop 1) = pairsOf (lg.map lgD) := rfl
  have z2 : List.zipWith pairD (lg.map lgD) (lg.map lgD).tail = pairsOf (lg.map lgD) := by unfold pairsOf; rw [List.drop_one]
  have l1 : (pairsOf (lg.map lgD)).length ≤ 1000000 := by rw [pairs_eq]; simp; omega
  have l2 : lg.length ≤ 1000001 := by omega
  generalize (List.range (lg.length - 1)).map (fun k => sdD (lf lg k)) = R at *
  generalize (pairsOf (lg.map lgD)) = Q at *
  unfold ptD at *
  unfold m_bend_sides d_bend_sides
  simp -implicitDefEqProofs [zip2W, c1, z1, z2, l1, l2, wipeE, e1, srcW_dl, e2, -List.map_map, -List.map_drop, -List.map_tail]
end
section
variable [Tbl]
theorem rng_get {α : Type} {f : Nat → α} {n i : Nat} {d : α} (h : ((List.range n).map f)[i]? = some d) : i < n ∧ d = f i := by
  rw [List.getElem?_map] at h
  obtain ⟨k, hk, rfl⟩ := Option.map_eq_some_iff.mp h
  obtain ⟨hi, rfl⟩ := List.getElem?_eq_some_iff.mp hk
  exact ⟨by simpa using hi, by simp⟩
end
section
variable [Tbl]
/-! ## strips -/
def ah (lg : Lgs) (W : Int) : Nat → Int
  | 0 => 0
  | k + 1 => if lf lg k = true then W else 0
def mo (lg : Lgs) (W : Int) (k : Nat) : Int := if k + 1 < lg.length then (if lf lg k = true then 0 else W) else 0
def he (lg : Lgs) (W : Int) (k : Nat) : Int := ln lg k + mo lg W k - ah lg W k
def sx (lg : Lgs) (x W : Int) (k : Nat) : Int := px lg x k + ah lg W k * dx (wy lg k)
def sy (lg : Lgs) (y W : Int) (k : Nat) : Int := py lg y k + ah lg W k * dy (wy lg k)
def stD (lg : Lgs) (x y W : Int) (k : Nat) : PyData := .tuple [.int (sx lg x W k), .int (sy lg y W k), .str (wayS (wy lg k)), .int (he lg W k)]
theorem sd_left (b : Bool) : eqD (sdD b) (.str "left") = some (.bool b) := by cases b <;> rfl
theorem sd_right (b : Bool) : eqD (sdD b) (.str "right") = some (.bool (!b)) := by cases b <;> rfl
theorem ah_b {lg : Lgs} {W : Int} (hW : 1 ≤ W ∧ W ≤ 9) (k : Nat) : 0 ≤ ah lg W k ∧ ah lg W k ≤ 9 := by
  cases k with
  | zero => simp [ah]
  | succ k => unfold ah; split <;> omega
section
variable {x y : Int} {lg : Lgs} (P : Pt x y lg) {W : Int} (hW : 1 ≤ W ∧ W ≤ 9)
include P hW
theorem sb_turn {i : Nat} (hi : i < lg.length) (h1 : 1 ≤ he lg W i) (v0 x8 x9 x10 x11 x12 : Option Wv) (st : Sto) :
    ∃ y8 y9 y10 y11 y12, d_strips_by_l1 [v0, some (.d (.int (W))), some (.d (.list ((List.range (lg.length - 1)).map fun k => sdD (lf lg k)))), some (.d (.list ((List.range (lg.length + 1)).map (ppD lg x y)))), some (.r st.length), some (.d (.int ((i : Int)))), some (.d (.str (wayS (wy lg i)))), some (.d (.int (ln lg i))), x8, x9, x10, x11, x12] (st ++ [.lst ((List.range i).map (stD lg x y W))]) =
      .nx [v0, some (.d (.int (W))), some (.d (.list ((List.range (lg.length - 1)).map fun k => sdD (lf lg k)))), some (.d (.list ((List.range (lg.length + 1)).map (ppD lg x y)))), some (.r st.length), some (.d (.int ((i : Int)))), some (.d (.str (wayS (wy lg i)))), some (.d (.int (ln lg i))), y8, y9, y10, y11, y12] (st ++ [.lst ((List.range (i + 1)).map (stD lg x y W))]) := by
  have hn := P.n
  have hk := P.k hi
  have hA := ah_b (lg := lg) hW i
  have sg : ∀ j, j + 1 < lg.length → atD ((List.range (lg.length - 1)).map fun k => sdD (lf lg k)) (j : Int) = some (sdD (lf lg j)) := fun j hj => by
    rw [atD_nat, List.getElem?_map, List.getElem?_range (by omega)]; rfl
  have pg : atD ((List.range (lg.length + 1)).map (ppD lg x y)) (i : Int) = some (.tuple [.int (px lg x i), .int (py lg y i)]) := by
    rw [atD_nat, List.getElem?_map, List.getElem?_range (by omega)]; rfl
  have sl : ((List.range (lg.length - 1)).map fun k => sdD (lf lg k)).length = lg.length - 1 := by simp
  generalize (List.range (lg.length - 1)).map (fun k => sdD (lf lg k)) = SS at *
  generalize (List.range (lg.length + 1)).map (ppD lg x y) = PP at *
  have gt : (st ++ [Ob.lst ((List.range i).map (stD lg x y W))])[st.length]? = some (.lst ((List.range i).map (stD lg x y W))) := by simp
  have il := isLst_l gt
  have ap := appW_l gt (by rw [List.length_map, List.length_range]; omega) (stD lg x y W i)
  rw [← rng_succ] at ap
  have h8 : ∀ (n : Nat) st, (eIf (tAnd2 (tBl (eOp2 gtD (eVar 5) (eK (.int 0)))) (tBl (eOp2 eqD (eOp2 ixD (eVar 2) (eOp2 subD (eVar 5) (eK (.int 1)))) (eK (.str "left"))))) (eVar 1) (eK (.int 0))) [v0, some (.d (.int (W))), some (.d (.list SS)), some (.d (.list PP)), some (.r n), some (.d (.int ((i : Int)))), some (.d (.str (wayS (wy lg i)))), some (.d (.int (ln lg i))), x8, x9, x10, x11, x12] st = .ok (.d (.int (ah lg W i))) st := fun n st => by
    rcases i with _ | j
    · simp -implicitDefEqProofs [ah]
    · have e1 : ((j + 1 : Nat) : Int) - 1 = (j : Int) := by omega
      have e2 : (0 : Int) < ((j + 1 : Nat) : Int) := by omega
      have e3 := sg j hi
      generalize ((j + 1 : Nat) : Int) = J at *
      cases q : lf lg j <;> rw [q] at e3 <;> simp -implicitDefEqProofs [ah, e1, e2, e3, sd_left, q]
  have h9 : ∀ (u : Option Wv) (n : Nat) st, (eIf (tAnd2 (tBl (eOp2 ltD (eVar 5) (eOpN lenF (aCons (eVar 2) aNil)))) (tBl (eOp2 eqD (eOp2 ixD (eVar 2) (eVar 5)) (eK (.str "right"))))) (eVar 1) (eK (.int 0))) [v0, some (.d (.int (W))), some (.d (.list SS)), some (.d (.list PP)), some (.r n), some (.d (.int ((i : Int)))), some (.d (.str (wayS (wy lg i)))), some (.d (.int (ln lg i))), u, x9, x10, x11, x12] st = .ok (.d (.int (mo lg W i))) st := fun u n st => by
    by_cases q : i + 1 < lg.length
    · have e2 : i < lg.length - 1 := by omega
      have e3 := sg i q
      have e4 : mo lg W i = (if lf lg i = true then 0 else W) := by unfold mo; rw [if_pos q]
      rw [e4]
      cases q : lf lg i <;> rw [q] at e3 <;> simp -implicitDefEqProofs [sl, e2, e3, sd_right]
    · have e2 : ¬ i < lg.length - 1 := by omega
      have e4 : mo lg W i = 0 := by unfold mo; rw [if_neg q]
      rw [e4]
      simp -implicitDefEqProofs [sl, e2]
  have go := fun st => r_gone hk.1 (f := ah lg W i) (by omega) (px lg x i) (py lg y i) st
  have h1' : ¬ ln lg i + mo lg W i - ah lg W i < 1 := by have : he lg W i = ln lg i + mo lg W i - ah lg W i := rfl; omega
  have e0 : PyData.tuple [.int (px lg x i + ah lg W i * dx (wy lg i)), .int (py lg y i + ah lg W i * dy (wy lg i)), .str (wayS (wy lg i)), .int (ln lg i + mo lg W i - ah lg W i)] = stD lg x y W i := rfl
  refine ⟨some (.d (.int (ah lg W i))), some (.d (.int (mo lg W i))), some (.d (.int (ln lg i + mo lg W i - ah lg W i))), some (.d (.int (px lg x i + ah lg W i * dx (wy lg i)))), some (.d (.int (py lg y i + ah lg W i * dy (wy lg i)))), ?_⟩
  generalize (List.range (i + 1)).map (stD lg x y W) = R2 at *
  generalize (List.range i).map (stD lg x y W) = R at *
  unfold d_strips_by_l1
  rw [x_seq, x_set, h8]
  simp only [Rs.sb_ok, SR.seq_nx, x_seq, x_set, List.set_cons_succ, List.set_cons_zero]
  rw [h9]
  simp -implicitDefEqProofs [h1', pg, go, il, tupW, e0, ap]
theorem en_get {lg : Lgs} {i : Nat} {d : PyData} (h : (enumD (lg.map lgD))[i]? = some d) : i < lg.length ∧ d = .tuple [.int (i : Int), .tuple [.str (wayS (wy lg i)), .int (ln lg i)]] := by
  unfold enumD at h
  rw [List.getElem?_mapIdx] at h
  obtain ⟨l, hl, rfl⟩ := Option.map_eq_some_iff.mp h
  obtain ⟨hi, rfl⟩ := lg_get hl
  exact ⟨hi, rfl⟩
theorem en_len (lg : Lgs) : (enumD (lg.map lgD)).length = lg.length := by simp [enumD]
theorem r_strips_by (ok : ∀ k, k < lg.length → 1 ≤ he lg W k) (st : Sto) : m_strips_by [.d (ptD x y lg), (.d (.int (W)))] st = .ok (.d (.list ((List.range lg.length).map (stD lg x y W)))) st := by
  have hn := P.n
  obtain ⟨env, st1, e1, y5, y6, y7, y8, y9, y10, y11, y12, rfl, rfl⟩ := forL_goI (g := gTp (gCn (gN 5) (gCn (gTp (gCn (gN 6) (gCn (gN 7) gNl))) gNl))) (b := d_strips_by_l1) (fun i env st' => ∃ y5 y6 y7 y8 y9 y10 y11 y12, env = [some (.d (ptD x y lg)), some (.d (.int (W))), some (.d (.list ((List.range (lg.length - 1)).map fun k => sdD (lf lg k)))), some (.d (.list ((List.range (lg.length + 1)).map (ppD lg x y)))), some (.r st.length), y5, y6, y7, y8, y9, y10, y11, y12] ∧ st' = st ++ [.lst ((List.range i).map (stD lg x y W))]) (enumD (lg.map lgD)) 0 (fun i d hd env st' hI => by
    rw [Nat.zero_add] at hI ⊢
    obtain ⟨y5, y6, y7, y8, y9, y10, y11, y12, rfl, rfl⟩ := hI
    obtain ⟨hi, rfl⟩ := en_get P hW hd
    obtain ⟨z8, z9, z10, z11, z12, t⟩ := sb_turn P hW hi (ok i hi) (some (.d (ptD x y lg))) y8 y9 y10 y11 y12 st
    exact ⟨_, _, _, rfl, t, _, _, _, _, _, _, _, _, rfl, rfl⟩) [some (.d (ptD x y lg)), some (.d (.int (W))), some (.d (.list ((List.range (lg.length - 1)).map fun k => sdD (lf lg k)))), some (.d (.list ((List.range (lg.length + 1)).map (ppD lg x y)))), some (.r st.length), none, none, none, none, none, none, none, none] (st ++ [.lst []]) ⟨none, none, none, none, none, none, none, none, rfl, rfl⟩
  rw [en_len P hW, Nat.zero_add] at e1
  have e2 := fun st => r_bend_sides P st
  have e3 := fun st => r_leg_points P st
  have gt : (st ++ [Ob.lst ((List.range lg.length).map (stD lg x y W))])[st.length]? = some (.lst ((List.range lg.length).map (stD lg x y W))) := by simp
  have l1 : lg.length ≤ 1000000 := by omega
  generalize (List.range (lg.length - 1)).map (fun k => sdD (lf lg k)) = SS at *
  generalize (List.range (lg.length + 1)).map (ppD lg x y) = PP at *
  generalize (List.range lg.length).map (stD lg x y W) = R at *
  unfold ptD at *
  unfold m_strips_by d_strips_by
  simp -implicitDefEqProofs [e2, e3, newW, enumW, l1, e1, x_end_fr (Nat.le_refl _) gt]
end
end
section
variable [Tbl]
/-! ## the law's strips -/
theorem r_law_step {w : Nat} (h : w < 4) (st : Sto) : m__law_step [.d (.str (wayS w))] st = .ok (.d (.tuple [.int (dx w), .int (dy w)])) st := by
  have e : dicW [.d (.str "east"), .d (.tuple [.int 1, .int 0]), .d (.str "north"), .d (.tuple [.int 0, .int 1]), .d (.str "west"), .d (.tuple [.int (-1), .int 0]), .d (.str "south"), .d (.tuple [.int 0, .int (-1)])] st = .ok (.d (.dict [(.str "east", .tuple [.int 1, .int 0]), (.str "north", .tuple [.int 0, .int 1]), (.str "west", .tuple [.int (-1), .int 0]), (.str "south", .tuple [.int 0, .int (-1)])])) st := rfl
  have x : ixD (.dict [(.str "east", .tuple [.int 1, .int 0]), (.str "north", .tuple [.int 0, .int 1]), (.str "west", .tuple [.int (-1), .int 0]), (.str "south", .tuple [.int 0, .int (-1)])]) (.str (wayS w)) = some (.tuple [.int (dx w), .int (dy w)]) := by
    rcases w4 h with rfl | rfl | rfl | rfl <;> rfl
  unfold m__law_step d__law_step
  simp -implicitDefEqProofs [tupW, e, x]
theorem side_dec {w v : Nat} (h : w < 4) (h2 : v < 4) : (dx w * dy v - dy w * dx v == 1) = decide ((v + 4 - w) % 4 = 1) := by
  rcases w4 h with rfl | rfl | rfl | rfl <;> rcases w4 h2 with rfl | rfl | rfl | rfl <;> decide
theorem big_d (w : Nat) (j : Int) : bigOk (dx w) j = true ∧ bigOk (dy w) j = true := by
  have hb : ∀ i : Int, i = 0 ∨ i = 1 ∨ i = -1 → bigOk i j = true := fun i hi => by
    unfold bigOk
    rw [decide_eq_true (show i.natAbs < 18446744073709551616 by omega)]
    rfl
  refine ⟨hb _ ?_, hb _ ?_⟩
  · unfold dx; split <;> simp
  · unfold dy; split <;> simp
theorem r_law_side {w v : Nat} (h : w < 4) (h2 : v < 4) (st : Sto) : m__law_side [.d (.str (wayS w)), .d (.str (wayS v))] st = .ok (.d (sdD (decide ((v + 4 - w) % 4 = 1)))) st := by
  have e1 := fun st => r_law_step h st
  have e2 := fun st => r_law_step h2 st
  have sd := side_dec h h2
  have b1 := fun j => (big_d w j).1
  have b2 := fun j => (big_d w j).2
  rw [← sd]
  unfold m__law_side d__law_side sdD
  by_cases q : dx w * dy v - dy w * dx v = 1
  · simp -implicitDefEqProofs [e1, e2, b1, b2, q]
  · simp -implicitDefEqProofs [e1, e2, b1, b2, q]
section
variable {x y : Int} {lg : Lgs} (P : Pt x y lg) {W : Int} (hW : 1 ≤ W ∧ W ≤ 9)
include P hW
theorem ls_turn {i : Nat} (hi : i < lg.length) (v0 x9 x10 x11 x12 : Option Wv) (st : Sto) :
    ∃ y9 y10 y11 y12, d__law_strips_l1 [v0, some (.d (.int (W))), some (.d (.int (px lg x i))), some (.d (.int (py lg y i))), some (.d (.tuple (lg.map lgD))), some (.r st.length), some (.d (.int ((i : Int)))), some (.d (.str (wayS (wy lg i)))), some (.d (.int (ln lg i))), x9, x10, x11, x12] (st ++ [.lst ((List.range i).map (stD lg x y W))]) =
      (if 1 ≤ he lg W i then .nx [v0, some (.d (.int (W))), some (.d (.int (px lg x (i + 1)))), some (.d (.int (py lg y (i + 1)))), some (.d (.tuple (lg.map lgD))), some (.r st.length), some (.d (.int ((i : Int)))), some (.d (.str (wayS (wy lg i)))), some (.d (.int (ln lg i))), y9, y10, y11, y12] (st ++ [.lst ((List.range (i + 1)).map (stD lg x y W))]) else .rt (.w (.d (.int ((i : Int))))) (st ++ [.lst ((List.range i).map (stD lg x y W))])) := by
  have hn := P.n
  have hk := P.k hi
  have hA := ah_b (lg := lg) hW i
  have lgx : ∀ j, j < lg.length → atD (lg.map lgD) (j : Int) = some (.tuple [.str (wayS (wy lg j)), .int (ln lg j)]) := fun j hj => by
    rw [atD_nat, List.getElem?_map, List.getElem?_eq_getElem hj, lg_at hj]; rfl
  have sd : ∀ j, j + 1 < lg.length → ∀ st, m__law_side [.d (.str (wayS (wy lg j))), .d (.str (wayS (wy lg (j + 1))))] st = .ok (.d (sdD (lf lg j))) st := fun j hj st => r_law_side (P.k (show j < lg.length by omega)).1 (P.k hj).1 st
  have gt : (st ++ [Ob.lst ((List.range i).map (stD lg x y W))])[st.length]? = some (.lst ((List.range i).map (stD lg x y W))) := by simp
  have il := isLst_l gt
  have ap := appW_l gt (by rw [List.length_map, List.length_range]; omega) (stD lg x y W i)
  rw [← rng_succ] at ap
  have es := fun st => r_law_step hk.1 st
  have hlen : (lg.map lgD).length = lg.length := by simp
  generalize hL : lg.map lgD = LL at *
  generalize (List.range (i + 1)).map (stD lg x y W) = R2 at *
  generalize (List.range i).map (stD lg x y W) = R at *
  have se : (st ++ [Ob.lst R]).set st.length (Ob.lst R2) = st ++ [Ob.lst R2] := by simp
  rw [se] at ap
  clear se
  generalize st.length = n at *
  generalize st ++ [Ob.lst R2] = st2 at *
  generalize st ++ [Ob.lst R] = st1 at *
  have hS : (sAsg (gTp (gCn (gN 9) (gCn (gN 10) gNl))) (eCall m__law_step (aCons (eVar 7) aNil))) [v0, some (.d (.int (W))), some (.d (.int (px lg x i))), some (.d (.int (py lg y i))), some (.d (.tuple LL)), some (.r n), some (.d (.int ((i : Int)))), some (.d (.str (wayS (wy lg i)))), some (.d (.int (ln lg i))), x9, x10, x11, x12] st1 = .nx [v0, some (.d (.int (W))), some (.d (.int (px lg x i))), some (.d (.int (py lg y i))), some (.d (.tuple LL)), some (.r n), some (.d (.int ((i : Int)))), some (.d (.str (wayS (wy lg i)))), some (.d (.int (ln lg i))), some (.d (.int (dx (wy lg i)))), some (.d (.int (dy (wy lg i)))), x11, x12] st1 := by
    simp -implicitDefEqProofs [es]
  have hP : (sPar2 11 12 (aCons (eK (.int 0)) (aCons (eVar 8) aNil))) [v0, some (.d (.int (W))), some (.d (.int (px lg x i))), some (.d (.int (py lg y i))), some (.d (.tuple LL)), some (.r n), some (.d (.int ((i : Int)))), some (.d (.str (wayS (wy lg i)))), some (.d (.int (ln lg i))), some (.d (.int (dx (wy lg i)))), some (.d (.int (dy (wy lg i)))), x11, x12] st1 = .nx [v0, some (.d (.int (W))), some (.d (.int (px lg x i))), some (.d (.int (py lg y i))), some (.d (.tuple LL)), some (.r n), some (.d (.int ((i : Int)))), some (.d (.str (wayS (wy lg i)))), some (.d (.int (ln lg i))), some (.d (.int (dx (wy lg i)))), some (.d (.int (dy (wy lg i)))), some (.d (.int (0))), some (.d (.int (ln lg i)))] st1 := by
    simp -implicitDefEqProofs
  have hB : (sIf (tAnd2 (tBl (eOp2 gtD (eVar 6) (eK (.int 0)))) (tBl (eOp2 eqD (eCall m__law_side (aCons (eOp2 ixD (eOp2 ixD (eVar 4) (eOp2 subD (eVar 6) (eK (.int 1)))) (eK (.int 0))) (aCons (eVar 7) aNil))) (eK (.str "left"))))) (sSet 11 (eVar 1)) sNil) [v0, some (.d (.int (W))), some (.d (.int (px lg x i))), some (.d (.int (py lg y i))), some (.d (.tuple LL)), some (.r n), some (.d (.int ((i : Int)))), some (.d (.str (wayS (wy lg i)))), some (.d (.int (ln lg i))), some (.d (.int (dx (wy lg i)))), some (.d (.int (dy (wy lg i)))), some (.d (.int (0))), some (.d (.int (ln lg i)))] st1 = .nx [v0, some (.d (.int (W))), some (.d (.int (px lg x i))), some (.d (.int (py lg y i))), some (.d (.tuple LL)), some (.r n), some (.d (.int ((i : Int)))), some (.d (.str (wayS (wy lg i)))), some (.d (.int (ln lg i))), some (.d (.int (dx (wy lg i)))), some (.d (.int (dy (wy lg i)))), some (.d (.int (ah lg W i))), some (.d (.int (ln lg i)))] st1 := by
    rcases i with _ | j
    · simp -implicitDefEqProofs [ah]
    · have e1 : ((j + 1 : Nat) : Int) - 1 = (j : Int) := by omega
      have e2 : (0 : Int) < ((j + 1 : Nat) : Int) := by omega
      have e3 := lgx j (by omega)
      have e4 := sd j hi
      generalize ((j + 1 : Nat) : Int) = J at *
      generalize wayS (wy lg (j + 1)) = V at *
      cases q : lf lg j <;> rw [q] at e4 <;> simp -implicitDefEqProofs [ah, e1, e2, e3, e4, sd_left, q]
  have hE : (sIf (tAnd2 (tBl (eOp2 ltD (eOp2 addD (eVar 6) (eK (.int 1))) (eOpN lenF (aCons (eVar 4) aNil)))) (tBl (eOp2 eqD (eCall m__law_side (aCons (eVar 7) (aCons (eOp2 ixD (eOp2 ixD (eVar 4) (eOp2 addD (eVar 6) (eK (.int 1)))) (eK (.int 0))) aNil))) (eK (.str "right"))))) (sSet 12 (eOp2 addD (eVar 8) (eVar 1))) sNil) [v0, some (.d (.int (W))), some (.d (.int (px lg x i))), some (.d (.int (py lg y i))), some (.d (.tuple LL)), some (.r n), some (.d (.int ((i : Int)))), some (.d (.str (wayS (wy lg i)))), some (.d (.int (ln lg i))), some (.d (.int (dx (wy lg i)))), some (.d (.int (dy (wy lg i)))), some (.d (.int (ah lg W i))), some (.d (.int (ln lg i)))] st1 = .nx [v0, some (.d (.int (W))), some (.d (.int (px lg x i))), some (.d (.int (py lg y i))), some (.d (.tuple LL)), some (.r n), some (.d (.int ((i : Int)))), some (.d (.str (wayS (wy lg i)))), some (.d (.int (ln lg i))), some (.d (.int (dx (wy lg i)))), some (.d (.int (dy (wy lg i)))), some (.d (.int (ah lg W i))), some (.d (.int (ln lg i + mo lg W i)))] st1 := by
    by_cases z : i + 1 < lg.length
    · have e2 : ((i : Int) + 1) < (lg.length : Int) := by omega
      have e3 := lgx (i + 1) z
      have e4 := sd i z
      have e5 : mo lg W i = (if lf lg i = true then 0 else W) := by unfold mo; rw [if_pos z]
      rw [e5]
      have e6 : ((i + 1 : Nat) : Int) = (i : Int) + 1 := by omega
      rw [e6] at e3
      cases q : lf lg i <;> rw [q] at e4 <;> simp -implicitDefEqProofs [hlen, e2, e3, e4, sd_right]
    · have e2 : ¬ ((i : Int) + 1) < (lg.length : Int) := by omega
      have e5 : mo lg W i = 0 := by unfold mo; rw [if_neg z]
      rw [e5]
      simp -implicitDefEqProofs [hlen, e2]
  have eh : he lg W i = ln lg i + mo lg W i - ah lg W i := rfl
  have bA := fun j => big_l (i := ah lg W i) (j := j) hA.1 (by omega)
  have bL := fun j => big_l (i := ln lg i) (j := j) (by omega) (by omega)
  have e0 : PyData.tuple [.int (px lg x i + ah lg W i * dx (wy lg i)), .int (py lg y i + ah lg W i * dy (wy lg i)), .str (wayS (wy lg i)), .int (ln lg i + mo lg W i - ah lg W i)] = stD lg x y W i := rfl
  refine ⟨some (.d (.int (dx (wy lg i)))), some (.d (.int (dy (wy lg i)))), some (.d (.int (ah lg W i))), some (.d (.int (ln lg i + mo lg W i))), ?_⟩
  unfold d__law_strips_l1
  rw [x_seq, hS, SR.seq_nx, x_seq, hP, SR.seq_nx, x_seq, hB, SR.seq_nx, x_seq, hE, SR.seq_nx]
  by_cases ok : 1 ≤ he lg W i
  · have z : ¬ ln lg i + mo lg W i ≤ ah lg W i := by omega
    rw [if_pos ok, px, py]
    simp -implicitDefEqProofs [z, bA, bL, il, tupW, e0, ap]
  · have z : ln lg i + mo lg W i ≤ ah lg W i := by omega
    rw [if_neg ok]
    simp -implicitDefEqProofs [z]
theorem ls_go (n : Nat) (hn : n ≤ lg.length) (ok : ∀ k, k < n → 1 ≤ he lg W k) (v0 : Option Wv) (rest : List PyData) (hr : enumD (lg.map lgD) = (enumD (lg.map lgD)).take n ++ rest) (st : Sto) :
    ∃ x6 x7 x8 x9 x10 x11 x12, forL (gTp (gCn (gN 6) (gCn (gTp (gCn (gN 7) (gCn (gN 8) gNl))) gNl))) d__law_strips_l1 [] ((enumD (lg.map lgD)).take n) [v0, some (.d (.int (W))), some (.d (.int (x))), some (.d (.int (y))), some (.d (.tuple (lg.map lgD))), some (.r st.length), none, none, none, none, none, none, none] (st ++ [.lst []]) =
      .nx [v0, some (.d (.int (W))), some (.d (.int (px lg x n))), some (.d (.int (py lg y n))), some (.d (.tuple (lg.map lgD))), some (.r st.length), x6, x7, x8, x9, x10, x11, x12] (st ++ [.lst ((List.range n).map (stD lg x y W))]) := by
  obtain ⟨env, st1, e1, y6, y7, y8, y9, y10, y11, y12, rfl, rfl⟩ := forL_goI (g := gTp (gCn (gN 6) (gCn (gTp (gCn (gN 7) (gCn (gN 8) gNl))) gNl))) (b := d__law_strips_l1) (fun i env st' => ∃ y6 y7 y8 y9 y10 y11 y12, env = [v0, some (.d (.int (W))), some (.d (.int (px lg x i))), some (.d (.int (py lg y i))), some (.d (.tuple (lg.map lgD))), some (.r st.length), y6, y7, y8, y9, y10, y11, y12] ∧ st' = st ++ [.lst ((List.range i).map (stD lg x y W))]) ((enumD (lg.map lgD)).take n) 0 (fun i d hd env st' hI => by
    rw [Nat.zero_add] at hI ⊢
    obtain ⟨y6, y7, y8, y9, y10, y11, y12, rfl, rfl⟩ := hI
    rw [List.getElem?_take] at hd
    split at hd
    · rename_i hin
      obtain ⟨hi, rfl⟩ := en_get P hW hd
      obtain ⟨z9, z10, z11, z12, t⟩ := ls_turn P hW hi v0 y9 y10 y11 y12 st
      rw [if_pos (ok i hin)] at t
      exact ⟨_, _, _, rfl, t, _, _, _, _, _, _, _, rfl, rfl⟩
    · cases hd) [v0, some (.d (.int (W))), some (.d (.int (x))), some (.d (.int (y))), some (.d (.tuple (lg.map lgD))), some (.r st.length), none, none, none, none, none, none, none] (st ++ [.lst []]) ⟨none, none, none, none, none, none, none, rfl, rfl⟩
  have hl : ((enumD (lg.map lgD)).take n).length = n := by rw [List.length_take, en_len P hW]; omega
  rw [hl, Nat.zero_add] at e1
  exact ⟨_, _, _, _, _, _, _, e1⟩
theorem r_law_strips_ok (ok : ∀ k, k < lg.length → 1 ≤ he lg W k) (st : Sto) : m__law_strips [.d (ptD x y lg), (.d (.int (W)))] st = .ok (.d (.list ((List.range lg.length).map (stD lg x y W)))) st := by
  have hn := P.n
  have el := en_len P hW (lg := lg)
  obtain ⟨x6, x7, x8, x9, x10, x11, x12, e1⟩ := ls_go P hW lg.length (Nat.le_refl _) ok (some (.d (ptD x y lg))) [] (by rw [List.take_of_length_le (by rw [el]; exact Nat.le_refl _), List.append_nil]) st
  rw [List.take_of_length_le (by rw [el]; exact Nat.le_refl _)] at e1
  have gt : (st ++ [Ob.lst ((List.range lg.length).map (stD lg x y W))])[st.length]? = some (.lst ((List.range lg.length).map (stD lg x y W))) := by simp
  have l1 : lg.length ≤ 1000000 := by omega
  generalize (List.range lg.length).map (stD lg x y W) = R at *
  unfold ptD at *
  unfold m__law_strips d__law_strips
  simp -implicitDefEqProofs [newW, enumW, l1, e1, x_end_fr (Nat.le_refl _) gt]
end
theorem forL_two {g : Wv → En → Option En} {b : En → Sto → SR} : ∀ (xs ys : List PyData) (env : En) (st : Sto), forL g b [] (xs ++ ys) env st = (forL g b [] xs env st).seq (forL g b [] ys)
  | [], ys, env, st => by simp
  | x :: xs, ys, env, st => by
    rw [List.cons_append, forL_cons, forL_cons]
    cases g (.d x) env with
    | none => rfl
    | some env1 =>
      dsimp only
      cases h : b env1 st with
      | nx env2 st2 => simp only [SR.seq_nx]; exact forL_two xs ys env2 st2
      | rt p st2 => rfl
      | ex e st2 => rfl
      | no => rfl
theorem r_law_strips_bad {x y : Int} {lg : Lgs} (P : Pt x y lg) {W : Int} (hW : 1 ≤ W ∧ W ≤ 9) {n : Nat} (hn2 : n < lg.length) (ok : ∀ k, k < n → 1 ≤ he lg W k) (bad : ¬ 1 ≤ he lg W n) (st : Sto) : m__law_strips [.d (ptD x y lg), (.d (.int (W)))] st = .ok (.d (.int ((n : Int)))) st := by
  have hn := P.n
  have el := en_len P hW (lg := lg)
  have hd : (enumD (lg.map lgD))[n]? = some ((enumD (lg.map lgD))[n]'(by rw [el]; exact hn2)) := List.getElem?_eq_getElem _
  obtain ⟨_, ed⟩ := en_get P hW hd
  have sp : enumD (lg.map lgD) = (enumD (lg.map lgD)).take n ++ (enumD (lg.map lgD)).drop n := (List.take_append_drop _ _).symm
  obtain ⟨x6, x7, x8, x9, x10, x11, x12, e1⟩ := ls_go P hW n (by omega) ok (some (.d (ptD x y lg))) _ sp st
  obtain ⟨z9, z10, z11, z12, t⟩ := ls_turn P hW hn2 (some (.d (ptD x y lg))) x9 x10 x11 x12 st
  rw [if_neg bad] at t
  have e2 : forL (gTp (gCn (gN 6) (gCn (gTp (gCn (gN 7) (gCn (gN 8) gNl))) gNl))) d__law_strips_l1 [] (enumD (lg.map lgD)) [some (.d (ptD x y lg)), some (.d (.int (W))), some (.d (.int (x))), some (.d (.int (y))), some (.d (.tuple (lg.map lgD))), some (.r st.length), none, none, none, none, none, none, none] (st ++ [.lst []]) = .rt (.w (.d (.int ((n : Int))))) (st ++ [.lst ((List.range n).map (stD lg x y W))]) := by
    rw [sp, forL_two, e1, SR.seq_nx, List.drop_eq_getElem_cons (by rw [el]; exact hn2), ed, forL_cons]
    have eg : (gTp (gCn (gN 6) (gCn (gTp (gCn (gN 7) (gCn (gN 8) gNl))) gNl))) (.d (.tuple [.int (n : Int), .tuple [.str (wayS (wy lg n)), .int (ln lg n)]])) [some (.d (ptD x y lg)), some (.d (.int (W))), some (.d (.int (px lg x n))), some (.d (.int (py lg y n))), some (.d (.tuple (lg.map lgD))), some (.r st.length), x6, x7, x8, x9, x10, x11, x12] = some [some (.d (ptD x y lg)), some (.d (.int (W))), some (.d (.int (px lg x n))), some (.d (.int (py lg y n))), some (.d (.tuple (lg.map lgD))), some (.r st.length), some (.d (.int ((n : Int)))), some (.d (.str (wayS (wy lg n)))), some (.d (.int (ln lg n))), x9, x10, x11, x12] := rfl
    rw [eg]
    dsimp only
    rw [t]
    rfl
  have l1 : lg.length ≤ 1000000 := by omega
  generalize (List.range n).map (stD lg x y W) = R at *
  unfold ptD at *
  unfold m__law_strips d__law_strips
  simp -implicitDefEqProofs [newW, enumW, l1, e2]
end
section
variable [Tbl]
def c2 (q : Int × Int) : PyData := .tuple [.int q.1, .int q.2]
abbrev Rc := Int × Int × Int × Int
def rc (w : Nat) (x y W s e : Int) : Rc := match w with
  | 0 => (x + s, y, x + e, y + W)
  | 1 => (x - W, y + s, x, y + e)
  | 2 => (x - e, y - W, x - s, y)
  | _ => (x, y - e, x + W, y - s)
def rcD (q : Rc) : PyData := .tuple [.int q.1, .int q.2.1, .int q.2.2.1, .int q.2.2.2]
theorem r_rectangle {w : Nat} (h : w < 4) (x y l W s e : Int) (st : Sto) : m_rectangle [.d (.tuple [.int x, .int y, .str (wayS w), .int l]), (.d (.int (W))), (.d (.int (s))), (.d (.int (e)))] st = .ok (.d (rcD (rc w x y W s e))) st := by
  have e1 : (("east" : Str) == "north") = false := by decide +kernel
  have e2 : (("east" : Str) == "west") = false := by decide +kernel
  have e3 : (("north" : Str) == "east") = false := by decide +kernel
  have e4 : (("west" : Str) == "east") = false := by decide +kernel
  have e5 : (("west" : Str) == "north") = false := by decide +kernel
  have e6 : (("south" : Str) == "east") = false := by decide +kernel
  have e7 : (("south" : Str) == "north") = false := by decide +kernel
  have e8 : (("south" : Str) == "west") = false := by decide +kernel
  unfold m_rectangle d_rectangle
  rcases w4 h with rfl | rfl | rfl | rfl <;> simp -implicitDefEqProofs [wayS, e1, e2, e3, e4, e5, e6, e7, e8, tupW, rcD, rc]
def covB (a b : Rc) : Bool := decide (a.1 < b.2.2.1) && (decide (b.1 < a.2.2.1) && (decide (a.2.1 < b.2.2.2) && decide (b.2.1 < a.2.2.2)))
theorem rc_shift {w : Nat} (h : w < 4) (x y W s l : Int) : rc w x y W s (s + l) = rc w (x + s * dx w) (y + s * dy w) W 0 l := by
  rcases w4 h with rfl | rfl | rfl | rfl <;> simp only [rc, dx, dy, Prod.mk.injEq] <;> omega
/-! ## rows: a path, a width, stones along each strip -/
abbrev Sts := List (Int × Int)
def stsD (t : Sts) : PyData := .tuple (t.map c2)
def SOk (L : Int) : Int → Sts → Prop
  | _, [] => True
  | e, q :: r => e ≤ q.1 ∧ 1 ≤ q.2 ∧ q.2 ≤ 20 ∧ q.1 + q.2 ≤ L ∧ SOk L (q.1 + q.2) r
theorem SOk.at' {L : Int} : ∀ {t : Sts} {e : Int}, 0 ≤ e → SOk L e t → ∀ q ∈ t, e ≤ q.1 ∧ 1 ≤ q.2 ∧ q.2 ≤ 20 ∧ q.1 + q.2 ≤ L
  | q0 :: t, e, he, h, q, hq => by
    obtain ⟨h1, h2, h3, h4, h5⟩ := h
    rcases List.mem_cons.mp hq with rfl | hq
    · exact ⟨h1, h2, h3, h4⟩
    · have := SOk.at' (by omega) h5 q hq
      omega
structure Row where
  x : Int
  y : Int
  lg : Lgs
  W : Int
  laid : List Sts
def rowD (r : Row) : PyData := .tuple [ptD r.x r.y r.lg, .int r.W, .tuple (r.laid.map stsD)]
def lay (r : Row) (k : Nat) : Sts := (r.laid[k]?).getD []
structure RwOk (r : Row) : Prop where
  P : Pt r.x r.y r.lg
  w : 1 ≤ r.W ∧ r.W ≤ 9
  ok : ∀ k, k < r.lg.length → 1 ≤ he r.lg r.W k
  n : r.laid.length = r.lg.length
  s : ∀ k, k < r.lg.length → (1 ≤ (lay r k).length ∧ (lay r k).length ≤ 12) ∧ SOk (he r.lg r.W k) 0 (lay r k)
theorem laid_rng {r : Row} (h : r.laid.length = r.lg.length) : r.laid.map stsD = (List.range r.lg.length).map fun k => stsD (lay r k) := by
  refine List.ext_getElem (by simp [h]) fun i h1 h2 => ?_
  have hi : i < r.laid.length := by simpa using h1
  simp only [List.getElem_map, List.getElem_range, lay]
  rw [List.getElem?_eq_getElem hi]
  rfl
/-- a stone's place: its strip's way, where it begins, the width, how long it is -/
structure Bx where
  w : Nat
  x : Int
  y : Int
  W : Nat
  l : Nat
def bx (r : Row) (k : Nat) (q : Int × Int) : Bx := ⟨wy r.lg k, sx r.lg r.x r.W k + q.1 * dx (wy r.lg k), sy r.lg r.y r.W k + q.1 * dy (wy r.lg k), r.W.toNat, q.2.toNat⟩
def rcB (b : Bx) : Rc := rc b.w b.x b.y (b.W : Int) 0 (b.l : Int)
structure BOk (b : Bx) : Prop where
  w : b.w < 4
  W : 0 < b.W ∧ b.W ≤ 9
  l : 0 < b.l ∧ b.l ≤ 20
def bxK (r : Row) (k : Nat) : List Bx := (lay r k).map (bx r k)
def bxs (r : Row) : List Bx := (List.range r.lg.length).flatMap (bxK r)
theorem RwOk.st {r : Row} (R : RwOk r) {k : Nat} (hk : k < r.lg.length) {q : Int × Int} (hq : q ∈ lay r k) : 0 ≤ q.1 ∧ 1 ≤ q.2 ∧ q.2 ≤ 20 ∧ q.1 + q.2 ≤ he r.lg r.W k := (R.s k hk).2.at' (by decide) q hq
theorem RwOk.bk {r : Row} (R : RwOk r) {k : Nat} (hk : k < r.lg.length) {b : Bx} (hb : b ∈ bxK r k) : BOk b := by
  obtain ⟨q, hq, rfl⟩ := List.mem_map.mp hb
  have h := R.st hk hq
  have w := R.w
  exact ⟨(R.P.k hk).1, ⟨by show 0 < r.W.toNat; omega, by show r.W.toNat ≤ 9; omega⟩, by show 0 < q.2.toNat; omega, by show q.2.toNat ≤ 20; omega⟩
theorem RwOk.b {r : Row} (R : RwOk r) {b : Bx} (hb : b ∈ bxs r) : BOk b := by
  obtain ⟨k, hk, hb⟩ := List.mem_flatMap.mp hb
  exact R.bk (List.mem_range.mp hk) hb
theorem flat_le {α : Type} (f : Nat → List α) (m : Nat) : ∀ n, (∀ k, k < n → (f k).length ≤ m) → ((List.range n).flatMap f).length ≤ n * m
  | 0, _ => by simp
  | n + 1, h => by
    rw [List.range_succ, List.flatMap_append, List.length_append, Nat.succ_mul]
    have h1 := flat_le f m n fun k hk => h k (by omega)
    have h2 := h n (Nat.lt_succ_self n)
    have h3 : (List.flatMap f [n]).length = (f n).length := by simp
    omega
theorem RwOk.len {r : Row} (R : RwOk r) : (bxs r).length ≤ 72 := by
  have := flat_le (bxK r) 12 r.lg.length fun k hk => by unfold bxK; rw [List.length_map]; exact (R.s k hk).1.2
  have := R.P.n
  show ((List.range r.lg.length).flatMap (bxK r)).length ≤ 72
  omega
/-- the rectangle of a stone -/
theorem rcB_rk {r : Row} (R : RwOk r) {k : Nat} (hk : k < r.lg.length) {q : Int × Int} (hq : q ∈ lay r k) : rc (wy r.lg k) (sx r.lg r.x r.W k) (sy r.lg r.y r.W k) r.W q.1 (q.1 + q.2) = rcB (bx r k q) := by
  have h := R.st hk hq
  have w := R.w
  rw [rc_shift (R.P.k hk).1]
  show _ = rc _ _ _ ((r.W.toNat : Nat) : Int) 0 ((q.2.toNat : Nat) : Int)
  rw [show ((r.W.toNat : Nat) : Int) = r.W by omega, show ((q.2.toNat : Nat) : Int) = q.2 by omega]
  rfl
end
section
variable [Tbl]
/-! ## what is looked at: stones, rows -/
def endOf : Int → Sts → Int
  | e, [] => e
  | _, q :: r => endOf (q.1 + q.2) r
theorem as_loop {L : Int} (th : PyData) (st : Sto) : ∀ (t : Sts) (e : Int), SOk L e t → forL (gN 3) d_are_stones_l1 [] (t.map c2) [some (.d th), some (.d (.int (L))), some (.d (.int (e))), none] st = .nx [some (.d th), some (.d (.int (L))), some (.d (.int (endOf e t))), none] st
  | [], e, _ => by simp [endOf, forL]
  | q :: t, e, h => by
    obtain ⟨h1, h2, h3, h4, h5⟩ := h
    have f1 : isFT (.int q.2) 1 20 = true := by simp [isFT, h2, h3]
    have f2 : isFT (.int q.1) e (L - q.2) = true := by simp [isFT, h1]; omega
    have tn : d_are_stones_l1 [some (.d th), some (.d (.int (L))), some (.d (.int (e))), some (.d (c2 q))] st = .nx [some (.d th), some (.d (.int (L))), some (.d (.int (q.1 + q.2))), none] st := by
      unfold d_are_stones_l1 c2
      simp -implicitDefEqProofs [r_is_from_to, w_MOST_STONE, f1, f2, wipeE]
    have ih := as_loop th st t (q.1 + q.2) h5
    have g1 : gN 3 (.d (c2 q)) [some (.d th), some (.d (.int (L))), some (.d (.int (e))), none] = some [some (.d th), some (.d (.int (L))), some (.d (.int (e))), some (.d (c2 q))] := rfl
    rw [List.map_cons, forL_cons, g1]
    dsimp only
    rw [tn, SR.seq_nx, ih, endOf]
theorem r_are_stones {L : Int} {t : Sts} (hn : 1 ≤ t.length ∧ t.length ≤ 12) (h : SOk L 0 t) (st : Sto) : m_are_stones [.d (stsD t), (.d (.int (L)))] st = .ok (.d (.bool true)) st := by
  have lp := as_loop (stsD t) st t 0 h
  have e1 : ixN 1 0 = some 0 := rfl
  have l1 : (t.map c2).length = t.length := List.length_map ..
  unfold stsD at *
  generalize t.map c2 = T at *
  have a1 : (1 : Int) ≤ (T.length : Int) := by omega
  have a2 : (T.length : Int) ≤ 12 := by omega
  unfold m_are_stones d_are_stones
  simp -implicitDefEqProofs [w_MOST_STONES, a1, a2, srcW_dt, lp, -forL_cons]
theorem r_strips_or_none {r : Row} (R : RwOk r) (st : Sto) : m_strips_or_none [.d (rowD r)] st = .ok (.d (.list ((List.range r.lg.length).map (stD r.lg r.x r.y r.W)))) st := by
  have e1 := fun st => r_is_path (ptD r.x r.y r.lg) st
  rw [R.P.isPath] at e1
  have f1 : isFT (.int r.W) 1 9 = true := by simp [isFT, R.w.1, R.w.2]
  have e3 := fun st => r_strips_by R.P R.w R.ok st
  unfold rowD
  generalize (List.range r.lg.length).map (stD r.lg r.x r.y r.W) = SS at *
  generalize ptD r.x r.y r.lg = PD at *
  unfold m_strips_or_none d_strips_or_none sTryN
  simp -implicitDefEqProofs [e1, r_is_from_to, w_MOST_WIDTH, f1, e3]
theorem zip_st (r : Row) (h : r.laid.length = r.lg.length) : List.zipWith pairD (r.laid.map stsD) ((List.range r.lg.length).map (stD r.lg r.x r.y r.W)) = (List.range r.lg.length).map fun k => pairD (stsD (lay r k)) (stD r.lg r.x r.y r.W k) := by
  rw [laid_rng h, List.zipWith_map, List.zipWith_self]
theorem r_is_row {r : Row} (R : RwOk r) (st : Sto) : m_is_row [.d (rowD r)] st = .ok (.d (.bool true)) st := by
  have e1 := fun st => r_strips_or_none R st
  have e2 := lcL_mapE (g := gTp (gCn (gN 3) (gCn (gN 4) gNl))) (c := eCall m_are_stones (aCons (eVar 3) (aCons (eOp2 ixD (eVar 4) (eK (.int 3))) aNil))) (env := [some (.d (rowD r)), some (.d (.list ((List.range r.lg.length).map (stD r.lg r.x r.y r.W)))), none, none, none]) (st := st) (fun k => pairD (stsD (lay r k)) (stD r.lg r.x r.y r.W k)) (fun _ => .bool true) (List.range r.lg.length) [] (fun k hk => by
    have hk2 := List.mem_range.mp hk
    have er := fun st => r_are_stones (R.s k hk2).1 (R.s k hk2).2 st
    refine ⟨_, rfl, ?_⟩
    show (eCall m_are_stones (aCons (eVar 3) (aCons (eOp2 ixD (eVar 4) (eK (.int 3))) aNil))) [some (.d (rowD r)), some (.d (.list ((List.range r.lg.length).map (stD r.lg r.x r.y r.W)))), none, some (.d (stsD (lay r k))), some (.d (stD r.lg r.x r.y r.W k))] st = _
    have e3 : ixD (stD r.lg r.x r.y r.W k) (.int 3) = some (.int (he r.lg r.W k)) := rfl
    generalize stsD (lay r k) = TT at *
    generalize stD r.lg r.x r.y r.W k = SK at *
    simp -implicitDefEqProofs [er, e3])
  rw [List.nil_append, ← zip_st r R.n] at e2
  have oa := o_all' (List.range r.lg.length) (fun _ => true)
  rw [show ((List.range r.lg.length).all fun _ => true) = true from List.all_eq_true.mpr fun _ _ => rfl] at oa
  have l1 : ((List.range r.lg.length).map (stD r.lg r.x r.y r.W)).length = r.lg.length := by simp
  have l2 : (r.laid.map stsD).length = r.lg.length := by simp [R.n]
  have l4 : r.lg.length ≤ 1000000 := by have := R.P.n; omega
  have l3 : (List.zipWith pairD (r.laid.map stsD) ((List.range r.lg.length).map (stD r.lg r.x r.y r.W))).length ≤ 1000000 := by rw [List.length_zipWith, l1, l2]; have := R.P.n; omega
  unfold rowD at *
  generalize (List.range r.lg.length).map (stD r.lg r.x r.y r.W) = SS at *
  generalize (List.range r.lg.length).map (fun _ => PyData.bool true) = BB at *
  generalize r.laid.map stsD = LL at *
  generalize ptD r.x r.y r.lg = PD at *
  unfold m_is_row d_is_row
  simp -implicitDefEqProofs [e1, l1, l2, l4, zip2W, l3, e2, oa, wipeE]
theorem r_need_row {r : Row} (R : RwOk r) (st : Sto) : m_need_row [.d (rowD r)] st = .ok (.d .none) st := by
  have e1 := fun st => r_is_row R st
  generalize rowD r = RD at *
  unfold m_need_row d_need_row
  simp -implicitDefEqProofs [e1]
theorem r_strips_ok {r : Row} (R : RwOk r) (st : Sto) : m_strips_by [.d (ptD r.x r.y r.lg), (.d (.int (r.W)))] st = .ok (.d (.list ((List.range r.lg.length).map (stD r.lg r.x r.y r.W)))) st := r_strips_by R.P R.w R.ok st
def rowsD (rs : List Row) : PyData := .tuple (rs.map rowD)
theorem r_need_rows {rs : List Row} (hn : rs.length ≤ 6) (h : ∀ r ∈ rs, RwOk r) (st : Sto) : m_need_rows [.d (rowsD rs)] st = .ok (.d .none) st := by
  have e2 := lcL_mapE (g := gN 2) (c := eCall m_is_row (aCons (eVar 2) aNil)) (env := [some (.d (rowsD rs)), none, none]) (st := st) rowD (fun _ => .bool true) rs [] (fun r hr => by
    have er := fun st => r_is_row (h r hr) st
    refine ⟨_, rfl, ?_⟩
    show (eCall m_is_row (aCons (eVar 2) aNil)) [some (.d (rowsD rs)), none, some (.d (rowD r))] st = _
    generalize rowD r = RD at *
    simp -implicitDefEqProofs [er])
  rw [List.nil_append] at e2
  have oa := o_all' rs (fun _ => true)
  rw [show (rs.all fun _ => true) = true from List.all_eq_true.mpr fun _ _ => rfl] at oa
  have l1 : (rs.map rowD).length = rs.length := by simp
  have l2 : ¬ (6 : Int) < (rs.length : Int) := by omega
  have l3 : (rs.map rowD).length ≤ 1000000 := by omega
  have l4 : rs.length ≤ 1000000 := by omega
  unfold rowsD at *
  generalize rs.map (fun _ => PyData.bool true) = BB at *
  generalize rs.map rowD = RR at *
  unfold m_need_rows d_need_rows
  simp -implicitDefEqProofs [l1, l2, l3, l4, w_MOST_ROWS, srcW_dt, e2, oa, wipeE]
end
section
variable [Tbl]
/-! ## all stones of rows -/
abbrev Nb := Nat × Nat × Bx
def enB (j : Nat) (B : List Bx) : List Nb := B.mapIdx fun s b => (j, s, b)
def rwB (rs : List Row) (j : Nat) : List Bx := ((rs[j]?).map bxs).getD []
def allN (rs : List Row) (i : Nat) : List Nb := (List.range i).flatMap fun j => enB j (rwB rs j)
def allB (rs : List Row) : List Nb := allN rs rs.length
theorem allN_succ (rs : List Row) (i : Nat) : allN rs (i + 1) = allN rs i ++ enB i (rwB rs i) := by
  unfold allN
  rw [List.range_succ, List.flatMap_append]
  simp
def eN (h : Bx → PyData) (p : Nb) : PyData := .tuple [.int p.1, .int p.2.1, h p.2.2]
def e1 (h : Bx → PyData) (p : Nb) : PyData := .tuple [.int p.2.1, h p.2.2]
theorem enum_B (h : Bx → PyData) (j : Nat) (B : List Bx) : enumD (B.map h) = (enB j B).map (e1 h) := by
  unfold enumD enB
  refine List.ext_getElem (by simp) fun i h1 h2 => ?_
  simp [e1]
theorem enB_mem {j : Nat} {B : List Bx} {p : Nb} (h : p ∈ enB j B) : p.2.2 ∈ B := by
  unfold enB at h
  obtain ⟨i, hi, rfl⟩ := List.mem_mapIdx.mp h
  exact List.getElem_mem ..
theorem enB_len (j : Nat) (B : List Bx) : (enB j B).length = B.length := by simp [enB]
section
variable {rs : List Row} (hn : rs.length ≤ 6) (ok : ∀ r ∈ rs, RwOk r)
include ok
theorem rwB_at {j : Nat} {r : Row} (h : rs[j]? = some r) : rwB rs j = bxs r ∧ RwOk r := by
  refine ⟨by unfold rwB; rw [h]; rfl, ok r (List.mem_of_getElem? h)⟩
theorem rwB_len (j : Nat) : (rwB rs j).length ≤ 72 := by
  unfold rwB
  cases q : rs[j]? with
  | none => simp
  | some r => exact (ok r (List.mem_of_getElem? q)).len
theorem allN_len (i : Nat) : (allN rs i).length ≤ i * 72 := flat_le _ 72 i fun j _ => by rw [enB_len]; exact rwB_len ok j
end
/-! ## the rectangles of a row -/
def rcb (b : Bx) : PyData := rcD (rcB b)
theorem bxs_succ (r : Row) (k : Nat) : ((List.range (k + 1)).flatMap (bxK r)).map rcb = ((List.range k).flatMap (bxK r)).map rcb ++ (bxK r k).map rcb := by
  rw [List.range_succ, List.flatMap_append, List.map_append]
  simp
theorem r_rectangles {r : Row} (R : RwOk r) (st : Sto) : m_rectangles [.d (rowD r)] st = .ok (.d (.list ((bxs r).map rcb))) st := by
  have es := fun st => r_strips_ok R st
  have hn := R.P.n
  have lp := forL_at (g := gTp (gCn (gN 2) (gCn (gN 3) gNl))) (b := d_rectangles_l1) (fun _ => [some (.d (rowD r)), some (.r st.length), none, none, none, none, none]) (fun i => st ++ [.lst (((List.range i).flatMap (bxK r)).map rcb)]) ((List.range r.lg.length).map fun k => pairD (stsD (lay r k)) (stD r.lg r.x r.y r.W k)) (fun i x hx => by
    obtain ⟨hi, rfl⟩ := rng_get hx
    refine ⟨_, rfl, ?_⟩
    show d_rectangles_l1 [some (.d (rowD r)), some (.r st.length), some (.d (stsD (lay r i))), some (.d (stD r.lg r.x r.y r.W i)), none, none, none] _ = _
    generalize hst : (st ++ [Ob.lst (((List.range i).flatMap (bxK r)).map rcb)]) = st1
    have g1 : st1[st.length]? = some (.lst (((List.range i).flatMap (bxK r)).map rcb)) := by rw [← hst]; simp
    have e2 := lcL_mapE (g := gTp (gCn (gN 5) (gCn (gN 6) gNl))) (c := eCall m_rectangle (aCons (eVar 3) (aCons (eOp2 ixD (eVar 0) (eK (.int 1))) (aCons (eVar 5) (aCons (eOp2 addD (eVar 5) (eVar 6)) aNil))))) (env := [some (.d (rowD r)), some (.r st.length), some (.d (stsD (lay r i))), some (.d (stD r.lg r.x r.y r.W i)), none, none, none]) (st := st1) c2 (fun q => rcb (bx r i q)) (lay r i) [] (fun q hq => by
      have er := fun st => r_rectangle (R.P.k hi).1 (sx r.lg r.x r.W i) (sy r.lg r.y r.W i) (he r.lg r.W i) r.W q.1 (q.1 + q.2) st
      rw [rcB_rk R hi hq] at er
      have ew : ixD (rowD r) (.int 1) = some (.int r.W) := rfl
      refine ⟨_, rfl, ?_⟩
      show (eCall m_rectangle (aCons (eVar 3) (aCons (eOp2 ixD (eVar 0) (eK (.int 1))) (aCons (eVar 5) (aCons (eOp2 addD (eVar 5) (eVar 6)) aNil))))) [some (.d (rowD r)), some (.r st.length), some (.d (stsD (lay r i))), some (.d (.tuple [.int (sx r.lg r.x r.W i), .int (sy r.lg r.y r.W i), .str (wayS (wy r.lg i)), .int (he r.lg r.W i)])), none, some (.d (.int (q.1))), some (.d (.int (q.2)))] st1 = _
      unfold rcb
      generalize rowD r = RD at *
      generalize stsD (lay r i) = TT at *
      simp -implicitDefEqProofs [ew, er])
    rw [List.nil_append, show (lay r i).map (fun q => rcb (bx r i q)) = (bxK r i).map rcb from by unfold bxK; rw [List.map_map]; rfl] at e2
    have l1 := flat_le (bxK r) 12 i fun k hk => by unfold bxK; rw [List.length_map]; exact (R.s k (by omega)).1.2
    have l2 : (bxK r i).length ≤ 12 := by unfold bxK; rw [List.length_map]; exact (R.s i hi).1.2
    have ex := extW_l (ys := (bxK r i).map rcb) g1 (by rw [List.length_map, List.length_map]; omega)
    rw [← bxs_succ, show st1.set st.length (.lst (((List.range (i + 1)).flatMap (bxK r)).map rcb)) = st ++ [.lst (((List.range (i + 1)).flatMap (bxK r)).map rcb)] from by rw [← hst]; simp] at ex
    have il := isLst_l g1
    have l3 : ((lay r i).map c2).length ≤ 1000000 := by rw [List.length_map]; have := (R.s i hi).1.2; omega
    have l4 : ((bxK r i).map rcb).length ≤ 1000000 := by rw [List.length_map]; omega
    unfold stsD at *
    generalize (lay r i).map c2 = TT at *
    generalize (bxK r i).map rcb = BB at *
    generalize ((List.range (i + 1)).flatMap (bxK r)).map rcb = F2 at *
    generalize stD r.lg r.x r.y r.W i = SD at *
    generalize rowD r = RD at *
    unfold d_rectangles_l1
    simp -implicitDefEqProofs [srcW_dt, e2, l3, l4, wipeE, il, ex])
  rw [List.length_map, List.length_range] at lp
  have z := zip_st r R.n
  have l1 : ((List.range r.lg.length).map (stD r.lg r.x r.y r.W)).length = r.lg.length := by simp
  have l2 : (r.laid.map stsD).length = r.lg.length := by simp [R.n]
  have z0 : ((List.range 0).flatMap (bxK r)).map rcb = [] := rfl
  have l5 : ((List.range r.lg.length).map fun k => pairD (stsD (lay r k)) (stD r.lg r.x r.y r.W k)).length ≤ 1000000 := by rw [List.length_map, List.length_range]; omega
  rw [z0] at lp
  unfold bxs
  have gt : (st ++ [Ob.lst (((List.range r.lg.length).flatMap (bxK r)).map rcb)])[st.length]? = some (.lst (((List.range r.lg.length).flatMap (bxK r)).map rcb)) := by simp
  have ep : ixD (rowD r) (.int 0) = some (ptD r.x r.y r.lg) := rfl
  have ew : ixD (rowD r) (.int 1) = some (.int r.W) := rfl
  have el : ixD (rowD r) (.int 2) = some (.tuple (r.laid.map stsD)) := rfl
  generalize ((List.range r.lg.length).map fun k => pairD (stsD (lay r k)) (stD r.lg r.x r.y r.W k)) = ZZ at *
  generalize (List.range r.lg.length).map (stD r.lg r.x r.y r.W) = SS at *
  generalize r.laid.map stsD = LL at *
  generalize ptD r.x r.y r.lg = PD at *
  generalize ((List.range r.lg.length).flatMap (bxK r)).map rcb = RR at *
  generalize rowD r = RD at *
  unfold m_rectangles d_rectangles
  simp -implicitDefEqProofs [newW, ep, ew, el, es, zip2W, z, l5, lp, x_end_fr (Nat.le_refl _) gt, -forL_cons]
end
section
variable [Tbl]
/-! ## the first two stones that lie over one another -/
def AS (rs : List Row) (st : Sto) (i : Nat) : Sto := st ++ [Ob.lst ((allN rs i).map (eN rcb))]
theorem AS_at (rs : List Row) (st : Sto) (i : Nat) : (AS rs st i)[st.length]? = some (.lst ((allN rs i).map (eN rcb))) := by unfold AS; simp
theorem AS_succ (rs : List Row) (st : Sto) (i : Nat) : (AS rs st i).set st.length (.lst ((allN rs (i + 1)).map (eN rcb))) = AS rs st (i + 1) := by unfold AS; simp
section
variable {rs : List Row} (hn : rs.length ≤ 6) (ok : ∀ r ∈ rs, RwOk r)
include hn ok
theorem r_all_stones (st : Sto) : m_all_stones [.d (rowsD rs)] st = .ok (.d (.list ((allB rs).map (eN rcb)))) st := by
  have lp := forL_at (g := gTp (gCn (gN 2) (gCn (gN 3) gNl))) (b := d_all_stones_l1) (fun _ => [some (.d (rowsD rs)), some (.r st.length), none, none, none, none, none]) (AS rs st) (enumD (rs.map rowD)) (fun i x hx => by
    unfold enumD at hx
    rw [List.getElem?_mapIdx, List.getElem?_map] at hx
    cases hr : rs[i]? with
    | none => rw [hr] at hx; cases hx
    | some r =>
      rw [hr] at hx
      cases hx
      obtain ⟨eb, R⟩ := rwB_at ok hr
      have hi : i < rs.length := (List.getElem?_eq_some_iff.mp hr).1
      have er := r_rectangles R (AS rs st i)
      have lb := rwB_len ok i
      have la := allN_len ok i
      refine ⟨_, rfl, ?_⟩
      show d_all_stones_l1 [some (.d (rowsD rs)), some (.r st.length), some (.d (.int ((i : Int)))), some (.d (rowD r)), none, none, none] (AS rs st i) = _
      have e2 := lcL_mapE (g := gTp (gCn (gN 5) (gCn (gN 6) gNl))) (c := eTup (aCons (eVar 2) (aCons (eVar 5) (aCons (eVar 6) aNil)))) (env := [some (.d (rowsD rs)), some (.r st.length), some (.d (.int ((i : Int)))), some (.d (rowD r)), none, none, none]) (st := AS rs st i) (e1 rcb) (eN rcb) (enB i (rwB rs i)) [] (fun p hp => by
        have hj : p.1 = i := by
          unfold enB at hp
          obtain ⟨s, hs, rfl⟩ := List.mem_mapIdx.mp hp
          rfl
        refine ⟨_, rfl, ?_⟩
        show (eTup (aCons (eVar 2) (aCons (eVar 5) (aCons (eVar 6) aNil)))) [some (.d (rowsD rs)), some (.r st.length), some (.d (.int ((i : Int)))), some (.d (rowD r)), none, some (.d (.int ((p.2.1 : Int)))), some (.d (rcb p.2.2))] _ = _
        unfold eN
        rw [hj]
        generalize rowD r = RD at *
        generalize rowsD rs = RR at *
        generalize rcb p.2.2 = CC at *
        simp -implicitDefEqProofs [tupW])
      rw [← enum_B, List.nil_append, eb] at e2
      have le : (enumD ((bxs r).map rcb)).length = (bxs r).length := by simp [enumD]
      have lb2 : (bxs r).length ≤ 72 := by rw [← eb]; exact lb
      have l1 : ((bxs r).map rcb).length ≤ 1000000 := by rw [List.length_map]; omega
      have l2 : (enumD ((bxs r).map rcb)).length ≤ 1000000 := by omega
      have l3 : ((enB i (bxs r)).map (eN rcb)).length ≤ 1000000 := by rw [List.length_map, enB_len]; omega
      have g1 := AS_at rs st i
      have il := isLst_l g1
      have ex := extW_l (ys := (enB i (bxs r)).map (eN rcb)) g1 (by rw [List.length_map, List.length_map, enB_len]; omega)
      have sx := AS_succ rs st i
      rw [allN_succ, List.map_append, eb] at sx
      rw [sx] at ex
      generalize AS rs st (i + 1) = S2 at *
      generalize AS rs st i = S0 at *
      have es : enumW [.d (.list ((bxs r).map rcb))] S0 = .ok ⟨enumD ((bxs r).map rcb), []⟩ S0 := rfl
      generalize enumD ((bxs r).map rcb) = EE at *
      generalize (enB i (bxs r)).map (eN rcb) = NN at *
      generalize (bxs r).map rcb = BB at *
      generalize rowD r = RD at *
      generalize rowsD rs = RR at *
      unfold d_all_stones_l1
      simp -implicitDefEqProofs [er, es, e2, l1, l2, l3, wipeE, il, ex])
  have l0 : (enumD (rs.map rowD)).length = rs.length := by simp [enumD]
  rw [l0] at lp
  have z0 : AS rs st 0 = st ++ [.lst []] := rfl
  rw [z0] at lp
  have ga := AS_at rs st rs.length
  have tk : (AS rs st rs.length).take st.length = st := by unfold AS; simp
  have ef : endS st.length (.rt (.f (.r st.length)) (AS rs st rs.length)) = .ok (.d (.list ((allB rs).map (eN rcb)))) st := by
    show (match frzW st.length (AS rs st rs.length) (.r st.length) with | some x => Rs.ok (Wv.d x) ((AS rs st rs.length).take st.length) | none => .no) = _
    unfold frzW
    simp [ga, tk, allB]
  have es : enumW [.d (rowsD rs)] (st ++ [.lst []]) = .ok ⟨enumD (rs.map rowD), []⟩ (st ++ [.lst []]) := rfl
  generalize AS rs st rs.length = S9 at *
  generalize enumD (rs.map rowD) = EE at *
  generalize rowsD rs = RR at *
  generalize (allB rs).map (eN rcb) = NN at *
  unfold m_all_stones d_all_stones
  simp -implicitDefEqProofs [newW, es, lp, ef, -forL_cons]
end
/-! ### which two -/
def q1 (p p2 : Nb) : Option Rt := if covB (rcB p.2.2) (rcB p2.2.2) = true then some (.w (.d (.tuple [.int p.1, .int p.2.1, .int p2.1, .int p2.2.1]))) else none
def q2 (A : List Nb) (z : Nat × Nb) : Option Rt := (A.drop (z.1 + 1)).findSome? (q1 z.2)
def ovR (A : List Nb) : Option Rt := (A.mapIdx fun i p => (i, p)).findSome? (q2 A)
def ovD (A : List Nb) : PyData := match ovR A with
  | some (.w (.d p)) => p
  | _ => .none
theorem findSome_mem {α β : Type} {q : α → Option β} : ∀ {L : List α} {r : β}, L.findSome? q = some r → ∃ a, a ∈ L ∧ q a = some r := fun h => by
  obtain ⟨a, h1, h2⟩ := List.exists_of_findSome?_eq_some h
  exact ⟨a, h1, h2⟩
theorem ov_is (A : List Nb) : ovR A = none ∨ ∃ p, p ∈ A ∧ ∃ p2, p2 ∈ A ∧ ovR A = some (.w (.d (.tuple [.int p.1, .int p.2.1, .int p2.1, .int p2.2.1]))) := by
  cases e : ovR A with
  | none => exact .inl rfl
  | some r =>
    unfold ovR at e
    obtain ⟨z, hz, e⟩ := findSome_mem e
    obtain ⟨i, hi, rfl⟩ := List.mem_mapIdx.mp hz
    unfold q2 at e
    obtain ⟨p2, h2, e⟩ := findSome_mem e
    unfold q1 at e
    split at e
    · cases e; exact .inr ⟨_, List.getElem_mem hi, p2, List.mem_of_mem_drop h2, rfl⟩
    · cases e
theorem enum_A (h : Bx → PyData) (A : List Nb) : enumD (A.map (eN h)) = (A.mapIdx fun i p => (i, p)).map fun z => .tuple [.int (z.1 : Nat), eN h z.2] := by
  unfold enumD
  refine List.ext_getElem (by simp) fun i h1 h2 => ?_
  simp
theorem r_cover (a b : Rc) (st : Sto) : m_cover [.d (rcD a), .d (rcD b)] st = .ok (.d (.bool (covB a b))) st := by
  obtain ⟨a1, a2, a3, a4⟩ := a
  obtain ⟨b1, b2, b3, b4⟩ := b
  unfold m_cover d_cover rcD covB
  by_cases h1 : a1 < b3
  · by_cases h2 : b1 < a3
    · have q1 : ¬ b3 ≤ a1 := by omega
      have q2 : ¬ a3 ≤ b1 := by omega
      by_cases h3 : a2 < b4 <;> simp -implicitDefEqProofs [h1, h2, q1, q2, h3]
    · have q1 : ¬ b3 ≤ a1 := by omega
      have q2 : a3 ≤ b1 := by omega
      simp -implicitDefEqProofs [h1, h2, q1, q2]
  · have q1 : b3 ≤ a1 := by omega
    simp -implicitDefEqProofs [h1, q1]
section
variable {rs : List Row} (hn : rs.length ≤ 6) (ok : ∀ r ∈ rs, RwOk r)
include hn ok
theorem r_over_by (st : Sto) : m_over_by [.d (rowsD rs)] st = .ok (.d (ovD (allB rs))) st := by
  have ea := fun st => r_all_stones hn ok st
  have la : (allB rs).length ≤ 500 := by have := allN_len ok rs.length; show (allN rs rs.length).length ≤ 500; omega
  have t2 : ∀ z : Nat × Nb, z ∈ ((allB rs).mapIdx fun i p => (i, p)) → d_over_by_l2 [some (.d (rowsD rs)), some (.d (.list ((allB rs).map (eN rcb)))), some (.d (.int ((z.1 : Int)))), some (.d (.int ((z.2.1 : Int)))), some (.d (.int ((z.2.2.1 : Int)))), some (.d (rcb z.2.2.2)), none, none, none] st = seek (q2 (allB rs) z) [some (.d (rowsD rs)), some (.d (.list ((allB rs).map (eN rcb)))), none, none, none, none, none, none, none] st := fun z hz => by
    have lp := forL_seek (g := gTp (gCn (gN 6) (gCn (gN 7) (gCn (gN 8) gNl)))) (b := d_over_by_l1) (env := [some (.d (rowsD rs)), some (.d (.list ((allB rs).map (eN rcb)))), some (.d (.int ((z.1 : Int)))), some (.d (.int ((z.2.1 : Int)))), some (.d (.int ((z.2.2.1 : Int)))), some (.d (rcb z.2.2.2)), none, none, none]) (st := st) (eN rcb) (q1 z.2) ((allB rs).drop (z.1 + 1)) (fun p2 hp => by
      refine ⟨_, rfl, ?_⟩
      show d_over_by_l1 [some (.d (rowsD rs)), some (.d (.list ((allB rs).map (eN rcb)))), some (.d (.int ((z.1 : Int)))), some (.d (.int ((z.2.1 : Int)))), some (.d (.int ((z.2.2.1 : Int)))), some (.d (rcb z.2.2.2)), some (.d (.int ((p2.1 : Int)))), some (.d (.int ((p2.2.1 : Int)))), some (.d (rcb p2.2.2))] st = _
      have ec := fun st => r_cover (rcB z.2.2.2) (rcB p2.2.2) st
      unfold d_over_by_l1 q1 rcb
      generalize (allB rs).map (eN fun b => rcD (rcB b)) = NN at *
      generalize (allB rs).map (eN rcb) = NN2 at *
      generalize rowsD rs = RR at *
      generalize rcD (rcB z.2.2.2) = C1 at *
      generalize rcD (rcB p2.2.2) = C2 at *
      cases h : covB (rcB z.2.2.2) (rcB p2.2.2) <;> simp only [h] at ec <;> simp -implicitDefEqProofs [ec, tupW, wipeE])
    have ls : ((allB rs).map (eN rcb)).length ≤ 1000000 := by rw [List.length_map]; omega
    have ld : (((allB rs).drop (z.1 + 1)).map (eN rcb)).length ≤ 1000000 := by rw [List.length_map, List.length_drop]; omega
    have ed : cutD ((allB rs).map (eN rcb)) (some (((z.1 + 1 : Nat)) : Int)) none = ((allB rs).drop (z.1 + 1)).map (eN rcb) := by rw [cutD_drop, List.map_drop]
    rw [Int.natCast_add] at ed
    have ed : cutD ((allB rs).map (eN rcb)) (some ((z.1 : Int) + 1)) none = ((allB rs).drop (z.1 + 1)).map (eN rcb) := ed
    unfold q2
    generalize ((allB rs).drop (z.1 + 1)).map (eN rcb) = DD at *
    generalize (allB rs).map (eN rcb) = NN at *
    generalize rowsD rs = RR at *
    generalize rcb z.2.2.2 = C1 at *
    unfold d_over_by_l2
    simp -implicitDefEqProofs [ls, ed, ld, srcW_dl, lp, -forL_cons]
    cases ((allB rs).drop (z.1 + 1)).findSome? (q1 z.2) <;> simp -implicitDefEqProofs [wipeE]
  have lp := forL_seek (g := gTp (gCn (gN 2) (gCn (gTp (gCn (gN 3) (gCn (gN 4) (gCn (gN 5) gNl)))) gNl))) (b := d_over_by_l2) (env := [some (.d (rowsD rs)), some (.d (.list ((allB rs).map (eN rcb)))), none, none, none, none, none, none, none]) (st := st) (fun z : Nat × Nb => .tuple [.int (z.1 : Nat), eN rcb z.2]) (q2 (allB rs)) ((allB rs).mapIdx fun i p => (i, p)) (fun z hz => ⟨_, rfl, t2 z hz⟩)
  rw [← enum_A, show ((allB rs).mapIdx fun i p => (i, p)).findSome? (q2 (allB rs)) = ovR (allB rs) from rfl] at lp
  have es : enumW [.d (.list ((allB rs).map (eN rcb)))] st = .ok ⟨enumD ((allB rs).map (eN rcb)), []⟩ st := rfl
  unfold ovD
  generalize enumD ((allB rs).map (eN rcb)) = EE at *
  generalize (allB rs).map (eN rcb) = NN at *
  generalize rowsD rs = RR at *
  unfold m_over_by d_over_by
  rcases ov_is (allB rs) with q | ⟨p, _, p2, _, q⟩
  · rw [q] at lp ⊢
    simp -implicitDefEqProofs [ea, es, lp, -forL_cons]
  · rw [q] at lp ⊢
    simp -implicitDefEqProofs [ea, es, lp, -forL_cons]
theorem r_first_over (st : Sto) : m_first_over [.d (rowsD rs)] st = .ok (.d (ovD (allB rs))) st := by
  have e1 := fun st => r_need_rows hn ok st
  have e2 := fun st => r_over_by hn ok st
  generalize rowsD rs = RD at *
  generalize ovD (allB rs) = RR at *
  unfold m_first_over d_first_over
  simp -implicitDefEqProofs [e1, e2]
end
end
section
variable [Tbl]
/-! ## joints along a strip -/
theorem fs_find {α β : Type} (p : α → Bool) (f : α → β) : ∀ L : List α, L.findSome? (fun a => if p a = true then none else some (f a)) = (L.find? fun a => !p a).map f
  | [] => rfl
  | a :: L => by
    rw [List.findSome?_cons, List.find?_cons]
    cases p a with
    | true => simp [fs_find p f L]
    | false => simp
def sa (t : Sts) (k : Nat) : Int := ((t[k]?).getD (0, 0)).1
def sl (t : Sts) (k : Nat) : Int := ((t[k]?).getD (0, 0)).2
/-- where the stone ahead ends -/
def pe (t : Sts) : Nat → Int
  | 0 => 0
  | k + 1 => sa t k + sl t k
def gp (t : Sts) (k : Nat) : Int := sa t k - pe t k
def okJ (a b : Int) (t : Sts) (k : Nat) : Bool := if k = 0 then decide (sa t 0 ≤ 0) else decide (a ≤ gp t k) && decide (gp t k ≤ b)
/-- the first thing amiss in a strip -/
def amR (a b : Int) (t : Sts) (L : Int) : Option Nat := match (List.range t.length).find? fun k => !okJ a b t k with
  | some k => some k
  | none => if pe t t.length = L then none else some t.length
def nD : Option Nat → PyData
  | none => .none
  | some k => .int (k : Nat)
theorem sts_at {t : Sts} {k : Nat} (h : k < t.length) : t[k] = (sa t k, sl t k) := by
  unfold sa sl
  rw [List.getElem?_eq_getElem h]
  rfl
theorem sts_ix {t : Sts} {k : Nat} (h : k < t.length) : atD (t.map c2) (k : Int) = some (.tuple [.int (sa t k), .int (sl t k)]) := by
  rw [atD_nat, List.getElem?_map, List.getElem?_eq_getElem h, sts_at h]
  rfl
theorem en_sts (t : Sts) : enumD (t.map c2) = (List.range t.length).map fun k => PyData.tuple [.int (k : Nat), .tuple [.int (sa t k), .int (sl t k)]] := by
  refine List.ext_getElem (by simp [enumD]) fun i h1 h2 => ?_
  have h : i < t.length := by simpa using h2
  have e := sts_at h
  simp only [enumD, List.getElem_mapIdx, List.getElem_map, List.getElem_range, e, c2]
theorem sum_2 (a b : Int) : sumF [.tuple [.int a, .int b]] = some (.int (a + b)) := by
  rw [show (PyData.tuple [.int a, .int b]) = .tuple (([a, b] : List Int).map .int) from rfl, o_sum_t]
  simp
theorem am_turn {a b L : Int} {t : Sts} {k : Nat} (hk : k < t.length) (st : Sto) : d_amiss_l1 [some (.d (stsD t)), some (.d (.int (L))), some (.d (.tuple [.int a, .int b])), some (.d (.int ((k : Int)))), some (.d (.int (sa t k))), some (.d (.int (sl t k))), none] st = seek (if okJ a b t k = true then none else some (Rt.w (.d (.int ((k : Int)))))) [some (.d (stsD t)), some (.d (.int (L))), some (.d (.tuple [.int a, .int b])), none, none, none, none] st := by
  rcases k with _ | j
  · unfold okJ d_amiss_l1
    rw [if_pos rfl]
    generalize stsD t = TD at *
    by_cases h : sa t 0 ≤ 0
    · have h2 : ¬ 0 < sa t 0 := by omega
      simp -implicitDefEqProofs [h, h2, wipeE]
    · have h2 : 0 < sa t 0 := by omega
      simp -implicitDefEqProofs [h, h2, wipeE]
  · have e1 : ((j + 1 : Nat) : Int) - 1 = (j : Int) := by omega
    have e2 := sts_ix (t := t) (k := j) (by omega)
    have e3 : ¬ ((j + 1 : Nat) : Int) = 0 := by omega
    have ix : ixD (stsD t) (.int (j : Int)) = some (.tuple [.int (sa t j), .int (sl t j)]) := e2
    have hg : sa t (j + 1) - (sa t j + sl t j) = gp t (j + 1) := rfl
    have ho : okJ a b t (j + 1) = (decide (a ≤ gp t (j + 1)) && decide (gp t (j + 1) ≤ b)) := by unfold okJ; rw [if_neg (Nat.succ_ne_zero j)]
    rw [ho]
    unfold d_amiss_l1
    generalize stsD t = TD at *
    generalize ((j + 1 : Nat) : Int) = J at *
    by_cases h1 : a ≤ gp t (j + 1)
    · by_cases h2 : gp t (j + 1) ≤ b
      · simp -implicitDefEqProofs [e1, ix, e3, sum_2, hg, h1, h2, wipeE]
      · simp -implicitDefEqProofs [e1, ix, e3, sum_2, hg, h1, h2, wipeE]
    · simp -implicitDefEqProofs [e1, ix, e3, sum_2, hg, h1, wipeE]
theorem sts_last {t : Sts} (h : 1 ≤ t.length) : atD (t.map c2) (-1) = some (.tuple [.int (sa t (t.length - 1)), .int (sl t (t.length - 1))]) := by
  have hne : t ≠ [] := List.length_pos_iff.mp h
  have e2 : t.map c2 = t.dropLast.map c2 ++ [c2 (t.getLast hne)] := by rw [← List.map_singleton, ← List.map_append, List.dropLast_concat_getLast]
  rw [e2, atD_last, List.getLast_eq_getElem, sts_at (by omega)]
  rfl
theorem r_amiss {a b L : Int} {t : Sts} (hn : 1 ≤ t.length ∧ t.length ≤ 12) (st : Sto) : m_amiss [.d (stsD t), (.d (.int (L))), .d (.tuple [.int a, .int b])] st = .ok (.d (nD (amR a b t L))) st := by
  have lp := forL_seek (g := gTp (gCn (gN 3) (gCn (gTp (gCn (gN 4) (gCn (gN 5) gNl))) gNl))) (b := d_amiss_l1) (env := [some (.d (stsD t)), some (.d (.int (L))), some (.d (.tuple [.int a, .int b])), none, none, none, none]) (st := st) (fun k : Nat => PyData.tuple [.int (k : Nat), .tuple [.int (sa t k), .int (sl t k)]]) (fun k => if okJ a b t k = true then none else some (Rt.w (.d (.int ((k : Int)))))) (List.range t.length) (fun k hk => ⟨_, rfl, am_turn (List.mem_range.mp hk) st⟩)
  rw [← en_sts, fs_find] at lp
  have e1 : enumW [.d (stsD t)] st = .ok ⟨enumD (t.map c2), []⟩ st := rfl
  have l1 : (enumD (t.map c2)).length ≤ 1000000 := by simp [enumD]; omega
  have ix : ixD (stsD t) (.int (-1)) = some (.tuple [.int (sa t (t.length - 1)), .int (sl t (t.length - 1))]) := sts_last hn.1
  have ln : lenF [stsD t] = some (.int (t.length : Nat)) := by unfold stsD; simp
  have hp : pe t t.length = sa t (t.length - 1) + sl t (t.length - 1) := by
    obtain ⟨i, hi⟩ : ∃ i, t.length = i + 1 := ⟨t.length - 1, by omega⟩
    rw [hi]; rfl
  unfold amR
  rw [hp]
  generalize stsD t = TD at *
  generalize enumD (t.map c2) = EE at *
  unfold m_amiss d_amiss
  cases h : (List.range t.length).find? (fun k => !okJ a b t k) with
  | some k =>
    rw [h] at lp
    simp -implicitDefEqProofs [e1, l1, lp, nD, -forL_cons]
  | none =>
    rw [h] at lp
    by_cases q : sa t (t.length - 1) + sl t (t.length - 1) = L
    · simp -implicitDefEqProofs [e1, l1, lp, nD, ix, sum_2, q, -forL_cons]
    · simp -implicitDefEqProofs [e1, l1, lp, nD, ix, sum_2, q, ln, -forL_cons]
/-- the first thing amiss in a row -/
def inR (a b : Int) (r : Row) : PyData := match (List.range r.lg.length).findSome? (fun i => (amR a b (lay r i) (he r.lg r.W i)).map fun k => PyData.tuple [.int (i : Nat), .int (k : Nat)]) with
  | some d => d
  | none => .none
theorem rsome (a b : Int) (r : Row) (L : List Nat) : L.findSome? (fun i => (amR a b (lay r i) (he r.lg r.W i)).map fun k => Rt.w (.d (PyData.tuple [.int (i : Nat), .int (k : Nat)]))) = (L.findSome? (fun i => (amR a b (lay r i) (he r.lg r.W i)).map fun k => PyData.tuple [.int (i : Nat), .int (k : Nat)])).map fun d => Rt.w (.d d) := by
  induction L with
  | nil => rfl
  | cons i L ih =>
    rw [List.findSome?_cons, List.findSome?_cons]
    cases amR a b (lay r i) (he r.lg r.W i) with
    | none => simp [ih]
    | some k => rfl
theorem ez_row {r : Row} (h : r.laid.length = r.lg.length) : enumD (List.zipWith pairD (r.laid.map stsD) ((List.range r.lg.length).map (stD r.lg r.x r.y r.W))) = (List.range r.lg.length).map fun i => PyData.tuple [.int (i : Nat), .tuple [stsD (lay r i), stD r.lg r.x r.y r.W i]] := by
  rw [zip_st r h]
  refine List.ext_getElem (by simp [enumD]) fun i h1 h2 => ?_
  simp only [enumD, List.getElem_mapIdx, List.getElem_map, List.getElem_range, pairD]
theorem r_need_joints {a b : Int} (J : 0 ≤ a ∧ a ≤ b ∧ b ≤ 9) (st : Sto) : m_need_joints [.d (.tuple [.int a, .int b])] st = .ok (.d .none) st := by
  have j1 := J.1
  have j2 := J.2.1
  have j3 := J.2.2
  have j4 : a ≤ 9 := by omega
  unfold m_need_joints d_need_joints m_are_joints d_are_joints
  simp [r_is_from_to, w_MOST_JOINT, isFT, j1, j2, j3, j4]
theorem r_in_joints {a b : Int} (J : 0 ≤ a ∧ a ≤ b ∧ b ≤ 9) {r : Row} (R : RwOk r) (st : Sto) : m_in_joints [.d (rowD r), .d (.tuple [.int a, .int b])] st = .ok (.d (inR a b r)) st := by
  have e1 := fun st => r_need_row R st
  have e2 := fun st => r_need_joints J st
  have e3 := fun st => r_strips_by R.P R.w R.ok st
  have lp := forL_seek (g := gTp (gCn (gN 2) (gCn (gTp (gCn (gN 3) (gCn (gN 4) gNl))) gNl))) (b := d_in_joints_l1) (env := [some (.d (rowD r)), some (.d (.tuple [.int a, .int b])), none, none, none, none]) (st := st) (fun i : Nat => PyData.tuple [.int (i : Nat), .tuple [stsD (lay r i), stD r.lg r.x r.y r.W i]])
    (fun i => (amR a b (lay r i) (he r.lg r.W i)).map fun k => Rt.w (.d (PyData.tuple [.int (i : Nat), .int (k : Nat)]))) (List.range r.lg.length) (fun i hi => by
      refine ⟨_, rfl, ?_⟩
      have hi := List.mem_range.mp hi
      have e4 := fun st => r_amiss (a := a) (b := b) (L := he r.lg r.W i) (R.s i hi).1 st
      have e5 : ixD (stD r.lg r.x r.y r.W i) (.int 3) = some (.int (he r.lg r.W i)) := rfl
      show d_in_joints_l1 [some (.d (rowD r)), some (.d (.tuple [.int a, .int b])), some (.d (.int ((i : Int)))), some (.d (stsD (lay r i))), some (.d (stD r.lg r.x r.y r.W i)), none] st = _
      generalize rowD r = RD at *
      generalize stsD (lay r i) = TD at *
      generalize stD r.lg r.x r.y r.W i = SD at *
      unfold d_in_joints_l1
      cases q : amR a b (lay r i) (he r.lg r.W i) with
      | none => rw [q] at e4; simp -implicitDefEqProofs [e4, e5, nD, wipeE]
      | some k => rw [q] at e4; simp -implicitDefEqProofs [e4, e5, nD, tupW, wipeE])
  rw [← ez_row R.n, rsome] at lp
  have ez : ∀ st, zip2W [.d (.tuple (r.laid.map stsD)), .d (.list ((List.range r.lg.length).map (stD r.lg r.x r.y r.W)))] st = .ok ⟨List.zipWith pairD (r.laid.map stsD) ((List.range r.lg.length).map (stD r.lg r.x r.y r.W)), []⟩ st := fun _ => rfl
  have ep : ixD (rowD r) (.int 0) = some (ptD r.x r.y r.lg) := rfl
  have ew : ixD (rowD r) (.int 1) = some (.int r.W) := rfl
  have el : ixD (rowD r) (.int 2) = some (.tuple (r.laid.map stsD)) := rfl
  have hn := R.P.n
  have l1 : (enumD (List.zipWith pairD (r.laid.map stsD) ((List.range r.lg.length).map (stD r.lg r.x r.y r.W)))).length ≤ 1000000 := by rw [ez_row R.n, List.length_map, List.length_range]; omega
  unfold inR
  generalize List.zipWith pairD (r.laid.map stsD) ((List.range r.lg.length).map (stD r.lg r.x r.y r.W)) = ZZ at *
  generalize (List.range r.lg.length).map (stD r.lg r.x r.y r.W) = SS at *
  generalize r.laid.map stsD = LL at *
  generalize ptD r.x r.y r.lg = PD at *
  generalize rowD r = RD at *
  unfold m_in_joints d_in_joints
  cases q : (List.range r.lg.length).findSome? (fun i => (amR a b (lay r i) (he r.lg r.W i)).map fun k => PyData.tuple [.int (i : Nat), .int (k : Nat)]) with
  | some d => rw [q] at lp; simp -implicitDefEqProofs [e1, e2, e3, ep, ew, el, ez, l1, lp, -forL_cons]
  | none => rw [q] at lp; simp -implicitDefEqProofs [e1, e2, e3, ep, ew, el, ez, l1, lp, -forL_cons]
end
section
variable [Tbl]
/-! ## squares along a strip (plain) -/
def peE (e : Int) (t : Sts) : Nat → Int
  | 0 => e
  | k + 1 => sa t k + sl t k
theorem peE_0 (t : Sts) (k : Nat) : peE 0 t k = pe t k := by cases k <;> rfl
theorem sok_at {L : Int} : ∀ {t : Sts} {e : Int}, SOk L e t → ∀ k, k < t.length → peE e t k ≤ sa t k ∧ 1 ≤ sl t k ∧ sl t k ≤ 20 ∧ sa t k + sl t k ≤ L
  | q :: t, e, h, 0, _ => ⟨h.1, h.2.1, h.2.2.1, h.2.2.2.1⟩
  | q :: t, e, h, k + 1, hk => by
    have ih := sok_at h.2.2.2.2 k (by simpa using hk)
    have e1 : sa (q :: t) (k + 1) = sa t k := by simp [sa]
    have e2 : sl (q :: t) (k + 1) = sl t k := by simp [sl]
    have e3 : peE e (q :: t) (k + 1) = peE (q.1 + q.2) t k := by
      cases k with
      | zero => simp [peE, sa, sl]
      | succ j => simp [peE, sa, sl]
    rw [e1, e2, e3]
    exact ih
section
variable {L : Int} {t : Sts} (S : SOk L 0 t)
include S
theorem st_k {k : Nat} (hk : k < t.length) : pe t k ≤ sa t k ∧ 1 ≤ sl t k ∧ sl t k ≤ 20 ∧ sa t k + sl t k ≤ L := by
  have := sok_at S k hk
  rw [peE_0] at this
  exact this
end
def cov (t : Sts) (x : Int) : Bool := t.any fun q => decide (q.1 ≤ x) && decide (x < q.1 + q.2)
/-! ## the list of squares -/
end
section
variable [Tbl]
/-! ## stretches, counted place by place (plain) -/
abbrev Iv := Int × Int
def inI (s : Iv) (x : Int) : Bool := decide (s.1 ≤ x) && decide (x < s.2)
def gr (m : Int) (n : Nat) : List Int := (List.range n).map fun i => m + (i : Nat)
def ct (m : Int) (n : Nat) (p : Int → Bool) : Int := ((gr m n).countP p : Nat)
theorem gr_succ (m : Int) (n : Nat) : gr m (n + 1) = gr m n ++ [m + (n : Nat)] := by unfold gr; rw [List.range_succ, List.map_append]; rfl
theorem gr_mem {m : Int} {n : Nat} {x : Int} : x ∈ gr m n ↔ m ≤ x ∧ x < m + (n : Nat) := by
  unfold gr
  rw [List.mem_map]
  constructor
  · rintro ⟨i, hi, rfl⟩
    have := List.mem_range.mp hi
    omega
  · intro h
    exact ⟨(x - m).toNat, List.mem_range.mpr (by omega), by omega⟩
theorem gr_app (m : Int) (a b : Nat) : gr m (a + b) = gr m a ++ gr (m + (a : Nat)) b := by
  induction b with
  | zero => simp [gr]
  | succ b ih => rw [← Nat.add_assoc, gr_succ, gr_succ, ih, List.append_assoc]; congr 3; omega
theorem ct_succ (m : Int) (n : Nat) (p : Int → Bool) : ct m (n + 1) p = ct m n p + if p (m + (n : Nat)) = true then 1 else 0 := by
  unfold ct
  rw [gr_succ, List.countP_append, List.countP_singleton]
  split <;> simp
theorem ct_iv (m u v : Int) (h : m ≤ u) : ∀ n : Nat, ct m n (inI (u, v)) = max 0 (min v (m + (n : Nat)) - u)
  | 0 => by
    show (0 : Int) = _
    omega
  | n + 1 => by
    rw [ct_succ, ct_iv m u v h n]
    unfold inI
    simp only [Bool.and_eq_true, decide_eq_true_eq]
    split <;> omega
theorem ct_in {m u v : Int} {n : Nat} (h : m ≤ u) (h2 : u ≤ v) (h3 : v ≤ m + (n : Nat)) : ct m n (inI (u, v)) = v - u := by
  rw [ct_iv m u v h]
  omega
theorem cp_or {α : Type} (p q : α → Bool) : ∀ L : List α, L.countP (fun x => p x || q x) = L.countP p + L.countP (fun x => q x && !p x)
  | [] => rfl
  | x :: L => by
    simp only [List.countP_cons, cp_or p q L]
    cases p x <;> cases q x <;> simp <;> omega
theorem cp_and {α : Type} (p q : α → Bool) : ∀ L : List α, L.countP (fun x => p x || q x) + L.countP (fun x => p x && q x) = L.countP p + L.countP q
  | [] => rfl
  | x :: L => by
    have ih := cp_and p q L
    simp only [List.countP_cons]
    cases p x <;> cases q x <;> simp <;> omega
theorem cp_congr {α : Type} {p q : α → Bool} {L : List α} (h : ∀ x ∈ L, p x = q x) : L.countP p = L.countP q := List.countP_congr fun x hx => by rw [h x hx]
theorem ct_or (m : Int) (n : Nat) (p q : Int → Bool) : ct m n (fun x => p x || q x) = ct m n p + ct m n (fun x => q x && !p x) := by
  unfold ct
  rw [cp_or]
  omega
theorem ct_congr {m : Int} {n : Nat} {p q : Int → Bool} (h : ∀ x, m ≤ x → x < m + (n : Nat) → p x = q x) : ct m n p = ct m n q := by
  unfold ct
  rw [cp_congr fun x hx => h x (gr_mem.mp hx).1 (gr_mem.mp hx).2]
theorem ct_none (m : Int) (n : Nat) {p : Int → Bool} (h : ∀ x, p x = false) : ct m n p = 0 := by
  unfold ct
  rw [List.countP_eq_zero.mpr fun x _ => by rw [h x]; exact Bool.false_ne_true]
  rfl
/-! ### how wide rising stretches are together -/
def wdE (l : Int) : Option Int → Int
  | none => l
  | some e => if l > e then l else e
def wdF : Int → Option Int → List Iv → Int
  | f, _, [] => f
  | f, e, (l, r) :: t => if r > wdE l e then wdF (f + r - wdE l e) (some r) t else wdF f (some (wdE l e)) t
def anyI (S : List Iv) (x : Int) : Bool := S.any fun s => inI s x
/-- the end of a list of stretches -/
def EndI (S : List Iv) : Option Int → Prop
  | none => S = []
  | some e => (∃ s ∈ S, s.2 = e) ∧ ∀ s ∈ S, s.2 ≤ e
theorem anyI_app (S T : List Iv) (x : Int) : anyI (S ++ T) x = (anyI S x || anyI T x) := by unfold anyI; rw [List.any_append]
theorem anyI_true {S : List Iv} {x : Int} : anyI S x = true ↔ ∃ s ∈ S, s.1 ≤ x ∧ x < s.2 := by
  unfold anyI inI
  rw [List.any_eq_true]
  simp only [Bool.and_eq_true, decide_eq_true_eq]
theorem wdF_is {m : Int} {n : Nat} : ∀ (t S : List Iv) (e : Option Int), (∀ s ∈ S, ∀ u ∈ t, s.1 ≤ u.1) → t.Pairwise (fun a b => a.1 ≤ b.1) → (∀ u ∈ t, m ≤ u.1 ∧ u.1 < u.2 ∧ u.2 ≤ m + (n : Nat)) → EndI S e → wdF (ct m n (anyI S)) e t = ct m n (anyI (S ++ t))
  | [], S, e, _, _, _, _ => by rw [List.append_nil]; rfl
  | (l, r) :: t, S, e, h1, h2, h3, h4 => by
    obtain ⟨p1, p2⟩ := List.pairwise_cons.mp h2
    have b := h3 (l, r) (by simp)
    dsimp only at b
    have more : ct m n (anyI (S ++ [(l, r)])) = ct m n (anyI S) + ct m n (fun x => inI (l, r) x && !anyI S x) := by
      rw [← ct_or]
      exact ct_congr fun x _ _ => by rw [anyI_app]; simp [anyI]
    have nxt : ∀ e', EndI (S ++ [(l, r)]) e' → wdF (ct m n (anyI (S ++ [(l, r)]))) e' t = ct m n (anyI (S ++ (l, r) :: t)) := fun e' he => by
      rw [wdF_is t (S ++ [(l, r)]) e' (fun s hs u hu => ?_) p2 (fun u hu => h3 u (by simp [hu])) he, List.append_assoc]
      · rfl
      · rcases List.mem_append.mp hs with hs | hs
        · exact h1 s hs u (by simp [hu])
        · rw [List.mem_singleton.mp hs]; exact p1 u hu
    unfold wdF
    cases e with
    | none =>
      have hS : S = [] := h4
      subst hS
      have new : ct m n (fun x => inI (l, r) x && !anyI [] x) = r - l := by
        rw [← ct_in b.1 (Int.le_of_lt b.2.1) b.2.2]
        exact ct_congr fun x _ _ => by simp [anyI]
      rw [new] at more
      rw [if_pos (show r > wdE l none from b.2.1), ← nxt (some r) ⟨⟨(l, r), by simp, rfl⟩, fun s hs => by rw [show s = (l, r) by simpa using hs]; exact Int.le_refl _⟩, more]
      congr 1
      show ct m n (anyI []) + r - l = _
      omega
    | some E =>
      obtain ⟨⟨s0, hs0, es0⟩, hE⟩ := h4
      have l0 := h1 s0 hs0 (l, r) (by simp)
      dsimp only at l0
      have cov : ∀ x, (inI (l, r) x && !anyI S x) = inI (wdE l (some E), r) x := fun x => by
        have key : anyI S x = true ∨ anyI S x = false := by cases anyI S x <;> simp
        unfold inI wdE
        dsimp only
        by_cases c1 : l ≤ x
        · by_cases c2 : x < E
          · have : anyI S x = true := anyI_true.mpr ⟨s0, hs0, by omega, by omega⟩
            rw [this]
            have : ¬ (if l > E then l else E) ≤ x := by split <;> omega
            simp [this]
          · have : anyI S x = false := by
              refine Bool.eq_false_iff.mpr fun q => ?_
              obtain ⟨s, hs, _, a2⟩ := anyI_true.mp q
              have := hE s hs
              omega
            rw [this]
            have : (if l > E then l else E) ≤ x := by split <;> omega
            simp [this, c1]
        · have : ¬ (if l > E then l else E) ≤ x := by split <;> omega
          simp [this, c1]
      have cnt : ct m n (fun x => inI (l, r) x && !anyI S x) = ct m n (inI (wdE l (some E), r)) := ct_congr fun x _ _ => cov x
      have wl : l ≤ wdE l (some E) := by unfold wdE; dsimp only; split <;> omega
      by_cases c : r > wdE l (some E)
      · rw [ct_in (by omega) (by omega) b.2.2] at cnt
        rw [cnt] at more
        rw [if_pos c, ← nxt (some r) ⟨⟨(l, r), by simp, rfl⟩, fun s hs => ?_⟩, more]
        · congr 1
          omega
        · rcases List.mem_append.mp hs with hs | hs
          · have := hE s hs
            have : E ≤ wdE l (some E) := by unfold wdE; dsimp only; split <;> omega
            omega
          · rw [List.mem_singleton.mp hs]; exact Int.le_refl _
      · rw [ct_iv m _ r (by omega)] at cnt
        have z : ct m n (fun x => inI (l, r) x && !anyI S x) = 0 := by rw [cnt]; omega
        rw [z, Int.add_zero] at more
        have eE : wdE l (some E) = E := by
          unfold wdE at c ⊢
          dsimp only at c ⊢
          split at c <;> rename_i q
          · omega
          · rw [if_neg q]
        rw [if_neg c, ← more, eE]
        refine nxt (some E) ⟨⟨s0, by simp [hs0], es0⟩, fun s hs => ?_⟩
        rcases List.mem_append.mp hs with hs | hs
        · exact hE s hs
        · rw [List.mem_singleton.mp hs]
          show r ≤ E
          rw [eE] at c
          omega
theorem wd_is {m : Int} {n : Nat} {t : List Iv} (h2 : t.Pairwise (fun a b => a.1 ≤ b.1)) (h3 : ∀ u ∈ t, m ≤ u.1 ∧ u.1 < u.2 ∧ u.2 ≤ m + (n : Nat)) : wdF 0 none t = ct m n (anyI t) := by
  have := wdF_is (m := m) (n := n) t [] none (fun s hs => absurd hs List.not_mem_nil) h2 h3 rfl
  rw [show ct m n (anyI []) = 0 from ct_none m n fun x => rfl] at this
  exact this
end
section
variable [Tbl]
/-! ## squares of rectangles, counted (plain) -/
def hold (b : Rc) (x y : Int) : Bool := (decide (b.1 ≤ x) && decide (x < b.2.2.1)) && (decide (b.2.1 ≤ y) && decide (y < b.2.2.2))
def anyB (B : List Rc) (x y : Int) : Bool := B.any fun b => hold b x y
/-- how wide at height y -/
def wid (m : Int) (n : Nat) (B : List Rc) (y : Int) : Int := ct m n fun x => anyB B x y
def sumI (f : Int → Int) (l : List Int) : Int := (l.map f).sum
theorem sumI_app (f : Int → Int) (a b : List Int) : sumI f (a ++ b) = sumI f a + sumI f b := by unfold sumI; rw [List.map_append, List.sum_append]
theorem sumI_congr {f g : Int → Int} {l : List Int} (h : ∀ x ∈ l, f x = g x) : sumI f l = sumI g l := by unfold sumI; rw [List.map_congr_left h]
theorem sumI_const (c : Int) (m : Int) : ∀ n : Nat, sumI (fun _ => c) (gr m n) = (n : Nat) * c
  | 0 => by simp [sumI, gr]
  | n + 1 => by
    rw [gr_succ, sumI_app, sumI_const c m n]
    show (n : Int) * c + sumI _ [_] = _
    simp only [sumI, List.map_cons, List.map_nil, List.sum_cons, List.sum_nil, Int.natCast_add, Int.add_mul]
    omega
/-- all squares -/
def area (mx my : Int) (n : Nat) (B : List Rc) : Int := sumI (wid mx n B) (gr my n)
/-- rectangles within bounds -/
structure In (mx my : Int) (n : Nat) (b : Rc) : Prop where
  x0 : mx ≤ b.1
  x : b.1 < b.2.2.1
  x1 : b.2.2.1 ≤ mx + (n : Nat)
  y0 : my ≤ b.2.1
  y : b.2.1 < b.2.2.2
  y1 : b.2.2.2 ≤ my + (n : Nat)
theorem hold_iff {b : Rc} {x y : Int} : hold b x y = true ↔ (b.1 ≤ x ∧ x < b.2.2.1) ∧ b.2.1 ≤ y ∧ y < b.2.2.2 := by
  unfold hold
  simp only [Bool.and_eq_true, decide_eq_true_eq]
theorem anyB_iff {B : List Rc} {x y : Int} : anyB B x y = true ↔ ∃ b ∈ B, (b.1 ≤ x ∧ x < b.2.2.1) ∧ b.2.1 ≤ y ∧ y < b.2.2.2 := by
  unfold anyB
  rw [List.any_eq_true]
  constructor
  · rintro ⟨b, hb, h⟩; exact ⟨b, hb, hold_iff.mp h⟩
  · rintro ⟨b, hb, h⟩; exact ⟨b, hb, hold_iff.mpr h⟩
/-! ### slab by slab -/
/-- the stretches of a slab -/
def slab (B : List Rc) (lo hi : Int) : List Iv := (B.filter fun b => decide (b.2.1 ≤ lo) && decide (hi ≤ b.2.2.2)).map fun b => (b.1, b.2.2.1)
def slabs (w : Int → Int → Int) : List Int → Int
  | lo :: hi :: l => (hi - lo) * w lo hi + slabs w (hi :: l)
  | _ => 0
theorem slabs_sum {f : Int → Int} {w : Int → Int → Int} : ∀ {l : List Int} {lo : Int}, (lo :: l).Pairwise (· < ·) → (∀ a b y, (a, b) ∈ List.zip (lo :: l) l → a ≤ y → y < b → f y = w a b) → slabs w (lo :: l) = sumI f (gr lo ((lo :: l).getLast (List.cons_ne_nil _ _) - lo).toNat)
  | [], lo, _, _ => by simp [slabs, gr, sumI]
  | hi :: l, lo, h, k => by
    obtain ⟨h1, h2⟩ := List.pairwise_cons.mp h
    have lt := h1 hi (by simp)
    have ih := slabs_sum (f := f) (w := w) h2 fun a b y hz h3 h4 => k a b y (by rw [List.zip_cons_cons]; exact List.mem_cons_of_mem _ hz) h3 h4
    have le : hi ≤ (hi :: l).getLast (List.cons_ne_nil _ _) := by
      rcases List.mem_cons.mp (List.getLast_mem (List.cons_ne_nil hi l)) with q | q
      · rw [q]; exact Int.le_refl _
      · exact Int.le_of_lt ((List.pairwise_cons.mp h2).1 _ q)
    rw [show (lo :: hi :: l).getLast (List.cons_ne_nil _ _) = (hi :: l).getLast (List.cons_ne_nil _ _) from rfl]
    generalize (hi :: l).getLast (List.cons_ne_nil _ _) = z at *
    rw [show (z - lo).toNat = (hi - lo).toNat + (z - hi).toNat by omega, gr_app, sumI_app, show lo + (((hi - lo).toNat : Nat) : Int) = hi by omega, ← ih]
    have e : sumI f (gr lo (hi - lo).toNat) = (hi - lo) * w lo hi := by
      rw [sumI_congr (g := fun _ => w lo hi) fun y hy => by
        have := gr_mem.mp hy
        exact k lo hi y (by simp) this.1 (by omega)]
      rw [sumI_const, show (((hi - lo).toNat : Nat) : Int) = hi - lo by omega]
    rw [e]
    rfl
theorem slab_any {B : List Rc} {L : List Int} {lo hi y : Int} (hL : ∀ b ∈ B, b.2.1 ∈ L ∧ b.2.2.2 ∈ L) (gap : ∀ z ∈ L, z ≤ lo ∨ hi ≤ z) (h1 : lo ≤ y) (h2 : y < hi) (x : Int) : anyI (slab B lo hi) x = anyB B x y := by
  refine Bool.eq_iff_iff.mpr ?_
  rw [anyI_true, anyB_iff]
  unfold slab
  constructor
  · rintro ⟨s, hs, a1, a2⟩
    obtain ⟨b, hb, rfl⟩ := List.mem_map.mp hs
    obtain ⟨hb, q⟩ := List.mem_filter.mp hb
    simp only [Bool.and_eq_true, decide_eq_true_eq] at q
    exact ⟨b, hb, ⟨a1, a2⟩, by omega, by omega⟩
  · rintro ⟨b, hb, ⟨a1, a2⟩, a3, a4⟩
    refine ⟨(b.1, b.2.2.1), List.mem_map.mpr ⟨b, List.mem_filter.mpr ⟨hb, ?_⟩, rfl⟩, a1, a2⟩
    have g1 := gap _ (hL b hb).1
    have g2 := gap _ (hL b hb).2
    simp only [Bool.and_eq_true, decide_eq_true_eq]
    omega
theorem zip_gap : ∀ {l : List Int} {lo a b : Int}, (lo :: l).Pairwise (· < ·) → (a, b) ∈ List.zip (lo :: l) l → ∀ z ∈ lo :: l, z ≤ a ∨ b ≤ z
  | [], lo, a, b, _, h, z, hz => by simp at h
  | hi :: l, lo, a, b, p, h, z, hz => by
    obtain ⟨p1, p2⟩ := List.pairwise_cons.mp p
    obtain ⟨p3, p4⟩ := List.pairwise_cons.mp p2
    rw [List.zip_cons_cons] at h
    rcases List.mem_cons.mp h with q | q
    · cases q
      rcases List.mem_cons.mp hz with rfl | hz
      · exact .inl (Int.le_refl _)
      · rcases List.mem_cons.mp hz with rfl | hz
        · exact .inr (Int.le_refl _)
        · exact .inr (Int.le_of_lt (p3 z hz))
    · rcases List.mem_cons.mp hz with rfl | hz
      · have ha : a ∈ hi :: l := (List.of_mem_zip q).1
        exact .inl (Int.le_of_lt (p1 a ha))
      · exact zip_gap p2 q z hz
/-- the program's sum is the number of squares -/
theorem slabs_area {mx my : Int} {n : Nat} {B : List Rc} (hB : ∀ b ∈ B, In mx my n b) {L : List Int} (pL : L.Pairwise (· < ·)) (hL : ∀ y, y ∈ L ↔ ∃ b ∈ B, y = b.2.1 ∨ y = b.2.2.2) {w : Int → Int → Int} (hw : ∀ lo hi, w lo hi = ct mx n (anyI (slab B lo hi))) :
    slabs w L = area mx my n B := by
  have out : ∀ y, (∀ b ∈ B, y < b.2.1 ∨ b.2.2.2 ≤ y) → wid mx n B y = 0 := fun y h => ct_none mx n fun x => by
    refine Bool.eq_false_iff.mpr fun q => ?_
    obtain ⟨b, hb, _, q1, q2⟩ := anyB_iff.mp q
    have := h b hb
    omega
  cases L with
  | nil =>
    have hN : B = [] := by
      cases B with
      | nil => rfl
      | cons b B => exact absurd ((hL b.2.1).mpr ⟨b, by simp, .inl rfl⟩) (by simp)
    subst hN
    show (0 : Int) = sumI (wid mx n []) (gr my n)
    rw [sumI_congr (g := fun _ => 0) fun y _ => out y fun b hb => absurd hb (by simp), sumI_const]
    simp
  | cons lo l =>
    have hf : ∀ a b y, (a, b) ∈ List.zip (lo :: l) l → a ≤ y → y < b → wid mx n B y = w a b := fun a b y hz h1 h2 => by
      rw [hw]
      exact ct_congr fun x _ _ => (slab_any (L := lo :: l) (fun b hb => ⟨(hL _).mpr ⟨b, hb, .inl rfl⟩, (hL _).mpr ⟨b, hb, .inr rfl⟩⟩) (zip_gap pL hz) h1 h2 x).symm
    rw [slabs_sum pL hf]
    have lm := List.getLast_mem (List.cons_ne_nil lo l)
    have bd : ∀ y ∈ lo :: l, my ≤ y ∧ y ≤ my + (n : Nat) := fun y hy => by
      obtain ⟨b, hb, q⟩ := (hL y).mp hy
      have := hB b hb
      have := this.y0; have := (hB b hb).y; have := (hB b hb).y1
      rcases q with q | q <;> omega
    have b0 := bd lo (by simp)
    have b1 := bd _ lm
    have lmin : ∀ y ∈ lo :: l, lo ≤ y := fun y hy => by
      rcases List.mem_cons.mp hy with rfl | hy
      · exact Int.le_refl _
      · exact Int.le_of_lt ((List.pairwise_cons.mp pL).1 y hy)
    have lmax : ∀ y ∈ lo :: l, y ≤ (lo :: l).getLast (List.cons_ne_nil _ _) := by
      clear hf bd b0 b1 lmin hL hB
      clear lm
      induction l generalizing lo with
      | nil => intro y hy; rw [show y = lo by simpa using hy]; exact Int.le_refl _
      | cons a l ih =>
        obtain ⟨p1, p2⟩ := List.pairwise_cons.mp pL
        have ih := ih (lo := a) p2
        intro y hy
        rw [show (lo :: a :: l).getLast (List.cons_ne_nil _ _) = (a :: l).getLast (List.cons_ne_nil _ _) from rfl]
        rcases List.mem_cons.mp hy with rfl | hy
        · have := p1 a (by simp)
          have := ih a (by simp)
          omega
        · exact ih y hy
    have lz := lmin _ lm
    generalize (lo :: l).getLast (List.cons_ne_nil _ _) = z at *
    unfold area
    obtain ⟨a, ha⟩ : ∃ a : Nat, (a : Int) = lo - my := ⟨(lo - my).toNat, by omega⟩
    obtain ⟨c, hc⟩ : ∃ c : Nat, (c : Int) = my + (n : Nat) - z := ⟨(my + (n : Nat) - z).toNat, by omega⟩
    rw [show gr my n = gr my a ++ (gr lo (z - lo).toNat ++ gr z c) from by
      rw [show n = a + ((z - lo).toNat + c) by omega, gr_app, gr_app, show my + (a : Nat) = lo by omega, show lo + (((z - lo).toNat : Nat) : Int) = z by omega], sumI_app, sumI_app]
    have z1 : sumI (wid mx n B) (gr my a) = 0 := by
      rw [sumI_congr (g := fun _ => 0) fun y hy => out y fun b hb => by
        have := gr_mem.mp hy
        have := lmin b.2.1 ((hL _).mpr ⟨b, hb, .inl rfl⟩)
        omega, sumI_const]
      simp
    have z2 : sumI (wid mx n B) (gr z c) = 0 := by
      rw [sumI_congr (g := fun _ => 0) fun y hy => out y fun b hb => by
        have := gr_mem.mp hy
        have := lmax b.2.2.2 ((hL _).mpr ⟨b, hb, .inr rfl⟩)
        omega, sumI_const]
      simp
    rw [z1, z2]
    omega
end
section
variable [Tbl]
def rA (b : Rc) : Int := (b.2.2.1 - b.1) * (b.2.2.2 - b.2.1)
/-- the squares that two have in common -/
def both (mx my : Int) (n : Nat) (b : Rc) (B : List Rc) : Int := sumI (fun y => ct mx n fun x => hold b x y && anyB B x y) (gr my n)
theorem sumI_add (f g : Int → Int) : ∀ l : List Int, sumI (fun y => f y + g y) l = sumI f l + sumI g l
  | [] => rfl
  | x :: l => by
    have := sumI_add f g l
    unfold sumI at *
    simp only [List.map_cons, List.sum_cons] at *
    omega
theorem ct_nn (m : Int) (n : Nat) (p : Int → Bool) : 0 ≤ ct m n p := Int.natCast_nonneg _
theorem sumI_nn {f : Int → Int} : ∀ {l : List Int}, (∀ x ∈ l, 0 ≤ f x) → 0 ≤ sumI f l
  | [], _ => Int.le_refl _
  | x :: l, h => by
    have a := h x (by simp)
    have b := sumI_nn (f := f) (l := l) fun y hy => h y (by simp [hy])
    unfold sumI at *
    simp only [List.map_cons, List.sum_cons]
    omega
theorem sumI_z {f : Int → Int} : ∀ {l : List Int}, (∀ x ∈ l, 0 ≤ f x) → sumI f l = 0 → ∀ x ∈ l, f x = 0
  | [], _, _, x, hx => absurd hx (by simp)
  | a :: l, h, z, x, hx => by
    have p := h a (by simp)
    have q := sumI_nn (f := f) (l := l) fun y hy => h y (by simp [hy])
    have e : sumI f (a :: l) = f a + sumI f l := by unfold sumI; simp
    rw [e] at z
    rcases List.mem_cons.mp hx with rfl | hx
    · omega
    · exact sumI_z (fun y hy => h y (by simp [hy])) (by omega) x hx
theorem area_cons (mx my : Int) (n : Nat) (b : Rc) (B : List Rc) : area mx my n (b :: B) + both mx my n b B = area mx my n [b] + area mx my n B := by
  unfold area both
  rw [← sumI_add, ← sumI_add]
  refine sumI_congr fun y _ => ?_
  unfold wid ct
  have e := cp_and (fun x => hold b x y) (fun x => anyB B x y) (gr mx n)
  have e1 : (fun x => anyB (b :: B) x y) = fun x => hold b x y || anyB B x y := rfl
  have e2 : (fun x => anyB [b] x y) = fun x => hold b x y := by funext x; simp [anyB]
  rw [e1, e2]
  omega
theorem area_one {mx my : Int} {n : Nat} {b : Rc} (I : In mx my n b) : area mx my n [b] = rA b := by
  obtain ⟨i1, i2, i3, i4, i5, i6⟩ := I
  have w : ∀ y, wid mx n [b] y = if inI (b.2.1, b.2.2.2) y = true then b.2.2.1 - b.1 else 0 := fun y => by
    unfold wid
    by_cases c : inI (b.2.1, b.2.2.2) y = true
    · rw [if_pos c, ← ct_in i1 (Int.le_of_lt i2) i3]
      refine ct_congr fun x _ _ => ?_
      show (hold b x y || false) = _
      unfold inI at c
      unfold hold inI
      dsimp only at c ⊢
      rw [c, Bool.or_false, Bool.and_true]
    · rw [if_neg c]
      refine ct_none mx n fun x => ?_
      show (hold b x y || false) = false
      unfold inI at c
      unfold hold
      dsimp only at c
      rw [Bool.eq_false_iff.mpr c, Bool.and_false, Bool.or_false]
  have key : ∀ (d : Int) (l : List Int), sumI (fun y => if inI (b.2.1, b.2.2.2) y = true then d else 0) l = (l.countP (inI (b.2.1, b.2.2.2)) : Nat) * d := fun d l => by
    induction l with
    | nil => simp [sumI]
    | cons a l ih =>
      have e : sumI (fun y => if inI (b.2.1, b.2.2.2) y = true then d else 0) (a :: l) = (if inI (b.2.1, b.2.2.2) a = true then d else 0) + sumI (fun y => if inI (b.2.1, b.2.2.2) y = true then d else 0) l := by unfold sumI; simp
      rw [e, ih, List.countP_cons]
      split
      · rw [Int.natCast_add, Int.add_mul]; simp; omega
      · simp
  unfold area
  rw [sumI_congr fun y _ => w y, key]
  have := ct_in i4 (Int.le_of_lt i5) i6
  unfold ct at this
  rw [this]
  unfold rA
  exact Int.mul_comm _ _
theorem both_nn (mx my : Int) (n : Nat) (b : Rc) (B : List Rc) : 0 ≤ both mx my n b B := sumI_nn fun y _ => ct_nn _ _ _
theorem both_z {mx my : Int} {n : Nat} {b : Rc} {B : List Rc} (I : In mx my n b) (hB : ∀ c ∈ B, In mx my n c) : both mx my n b B = 0 ↔ ∀ c ∈ B, covB b c = false := by
  constructor
  · intro z c hc
    refine Bool.eq_false_iff.mpr fun q => ?_
    unfold covB at q
    simp only [Bool.and_eq_true, decide_eq_true_eq] at q
    obtain ⟨q1, q2, q3, q4⟩ := q
    have J := hB c hc
    obtain ⟨i1, i2, i3, i4, i5, i6⟩ := I
    obtain ⟨j1, j2, j3, j4, j5, j6⟩ := J
    have := sumI_z (fun y _ => ct_nn mx n _) z (max b.2.1 c.2.1) (gr_mem.mpr (by omega))
    unfold ct at this
    have h0 : (gr mx n).countP (fun x => hold b x (max b.2.1 c.2.1) && anyB B x (max b.2.1 c.2.1)) = 0 := by omega
    have := List.countP_eq_zero.mp h0 (max b.1 c.1) (gr_mem.mpr (by omega))
    apply this
    rw [Bool.and_eq_true]
    exact ⟨hold_iff.mpr (by omega), anyB_iff.mpr ⟨c, hc, by omega⟩⟩
  · intro h
    unfold both
    rw [sumI_congr (g := fun _ => 0) fun y _ => ct_none mx n fun x => ?_, sumI_const]
    · simp
    · refine Bool.eq_false_iff.mpr fun q => ?_
      rw [Bool.and_eq_true] at q
      have h1 := hold_iff.mp q.1
      obtain ⟨c, hc, h2⟩ := anyB_iff.mp q.2
      have := h c hc
      unfold covB at this
      rw [Bool.eq_false_iff] at this
      apply this
      simp only [Bool.and_eq_true, decide_eq_true_eq]
      omega
/-- as many squares as all have together, just where none lies over another one -/
theorem area_all {mx my : Int} {n : Nat} : ∀ {B : List Rc}, (∀ c ∈ B, In mx my n c) → area mx my n B ≤ (B.map rA).sum ∧ (area mx my n B = (B.map rA).sum ↔ B.Pairwise fun a b => covB a b = false)
  | [], _ => by
    have : area mx my n [] = 0 := by
      unfold area
      rw [sumI_congr (f := wid mx n []) (g := fun _ => 0) fun y _ => ct_none mx n fun x => rfl, sumI_const]
      simp
    rw [this]
    exact ⟨Int.le_refl _, by simp⟩
  | b :: B, h => by
    have hb := h b (by simp)
    have hB : ∀ c ∈ B, In mx my n c := fun c hc => h c (by simp [hc])
    obtain ⟨i1, i2⟩ := area_all hB
    have e := area_cons mx my n b B
    have nn := both_nn mx my n b B
    have z := both_z hb hB
    rw [area_one hb] at e
    rw [List.map_cons, List.sum_cons, List.pairwise_cons, ← z, ← i2]
    refine ⟨by omega, ⟨fun q => ⟨by omega, by omega⟩, fun q => by omega⟩⟩
/-! ### moved -/
def shR (dx dy : Int) (b : Rc) : Rc := (b.1 + dx, b.2.1 + dy, b.2.2.1 + dx, b.2.2.2 + dy)
theorem gr_sh (m d : Int) (n : Nat) : gr (m + d) n = (gr m n).map (· + d) := by
  unfold gr
  rw [List.map_map]
  exact List.map_congr_left fun i _ => by show m + d + (i : Nat) = m + (i : Nat) + d; omega
theorem area_sh (mx my dx dy : Int) (n : Nat) (B : List Rc) : area (mx + dx) (my + dy) n (B.map (shR dx dy)) = area mx my n B := by
  have h : ∀ x y, anyB (B.map (shR dx dy)) (x + dx) (y + dy) = anyB B x y := fun x y => by
    unfold anyB
    rw [List.any_map]
    refine congrArg B.any (funext fun b => ?_)
    show hold (shR dx dy b) (x + dx) (y + dy) = hold b x y
    unfold hold shR
    dsimp only
    congr 1 <;> congr 1 <;> exact decide_eq_decide.mpr ⟨fun h => by omega, fun h => by omega⟩
  unfold area sumI
  rw [gr_sh my dy, List.map_map]
  refine congrArg List.sum (List.map_congr_left fun y _ => ?_)
  show wid (mx + dx) n (B.map (shR dx dy)) (y + dy) = wid mx n B y
  unfold wid ct
  rw [gr_sh mx dx, List.countP_map]
  refine congrArg _ (cp_congr fun x _ => ?_)
  exact h x y
theorem In.sh {mx my : Int} {n : Nat} {b : Rc} (I : In mx my n b) (dx dy : Int) : In (mx + dx) (my + dy) n (shR dx dy b) := by
  obtain ⟨i1, i2, i3, i4, i5, i6⟩ := I
  exact ⟨by show mx + dx ≤ b.1 + dx; omega, by show b.1 + dx < b.2.2.1 + dx; omega, by show b.2.2.1 + dx ≤ mx + dx + n; omega, by show my + dy ≤ b.2.1 + dy; omega, by show b.2.1 + dy < b.2.2.2 + dy; omega, by show b.2.2.2 + dy ≤ my + dy + n; omega⟩
end
section
variable [Tbl]
/-! ## how wide, how many squares: the program -/
def eD' : Option Int → PyData
  | none => .none
  | some e => .int e
def stpW (s : Int × Option Int) (p : Iv) : Int × Option Int := if p.2 > wdE p.1 s.2 then (s.1 + p.2 - wdE p.1 s.2, some p.2) else (s.1, some (wdE p.1 s.2))
theorem stpW_is : ∀ (t : List Iv) (f : Int) (e : Option Int), (t.foldl stpW (f, e)).1 = wdF f e t
  | [], f, e => rfl
  | (l, r) :: t, f, e => by
    rw [List.foldl_cons]
    unfold wdF stpW
    dsimp only
    split <;> exact stpW_is t _ _
theorem r_wide_of (t : List Iv) (hn : t.length ≤ 1000000) (st : Sto) : m_wide_of [.d (.list (t.map c2))] st = .ok (.d (.int (wdF 0 none t))) st := by
  obtain ⟨lp, _⟩ := forL_fold (g := gTp (gCn (gN 3) (gCn (gN 4) gNl))) (b := d_wide_of_l1) c2 (fun s : Int × Option Int => [some (.d (.list (t.map c2))), some (.d (.int (s.1))), some (.d (eD' s.2)), none, none]) (fun _ => st) stpW (fun _ => True) t (fun s p _ _ => by
    obtain ⟨f, e⟩ := s
    obtain ⟨l, r⟩ := p
    refine ⟨_, rfl, ?_, trivial⟩
    show d_wide_of_l1 [some (.d (.list (t.map c2))), some (.d (.int (f))), some (.d (eD' e)), some (.d (.int (l))), some (.d (.int (r)))] st = _
    unfold stpW
    generalize t.map c2 = TT at *
    unfold d_wide_of_l1
    cases e with
    | none =>
      have w : wdE l none = l := rfl
      dsimp only
      rw [w]
      by_cases h : r > l
      · have h : l < r := h
        simp -implicitDefEqProofs [eD', h, wipeE]
      · have h : ¬ l < r := h
        simp -implicitDefEqProofs [eD', h, wipeE]
    | some E =>
      have z : isND (.int E) .none = some (.bool false) := rfl
      by_cases h1 : l > E
      · have w : wdE l (some E) = l := if_pos h1
        dsimp only
        rw [w]
        have h1 : E < l := h1
        by_cases h : r > l
        · have h : l < r := h
          simp -implicitDefEqProofs [eD', z, h1, h, wipeE]
        · have h : ¬ l < r := h
          simp -implicitDefEqProofs [eD', z, h1, h, wipeE]
      · have w : wdE l (some E) = E := if_neg h1
        dsimp only
        rw [w]
        have h1 : ¬ E < l := h1
        by_cases h : r > E
        · have h : E < r := h
          simp -implicitDefEqProofs [eD', z, h1, h, wipeE]
        · have h : ¬ E < r := h
          simp -implicitDefEqProofs [eD', z, h1, h, wipeE]) (0, none) trivial
  have e1 := stpW_is t 0 none
  have l1 : (t.map c2).length ≤ 1000000 := by rw [List.length_map]; exact hn
  generalize hf : t.foldl stpW (0, none) = F at *
  obtain ⟨f, e⟩ := F
  dsimp only at e1 lp
  subst e1
  unfold m_wide_of d_wide_of
  generalize t.map c2 = TT at *
  have lp : forL (gTp (gCn (gN 3) (gCn (gN 4) gNl))) d_wide_of_l1 [] TT [some (.d (.list TT)), some (.d (.int (0))), some (.d .none), none, none] st = _ := lp
  simp -implicitDefEqProofs [srcW_dl, l1, lp, -forL_cons]
/-! ### sorted stretches -/
theorem lt_c2 (p q : Iv) : PySem.W.dataLt (c2 p) (c2 q) = if p.1 = q.1 then decide (p.2 < q.2) else decide (p.1 < q.1) := PySem.W.DatumOrd.lt_eq (α := Int × Int) p q
theorem srt_c2 (ps : List Iv) (hl : ps.length ≤ 1000000) : srtF false [.list (ps.map c2)] = some (.list ((sortT false c2 ps).map c2)) := srtF_of (o_srt_pairs (b := false) ps hl)
theorem sort_pw1 (ps : List Iv) : (sortT false c2 ps).Pairwise fun a b => a.1 ≤ b.1 := by
  unfold sortT
  have le : ∀ p q : Iv, PySem.W.dataLe false c2 p q = !(if q.1 = p.1 then decide (q.2 < p.2) else decide (q.1 < p.1)) := fun p q => by rw [← lt_c2]; rfl
  have h := List.pairwise_mergeSort (le := PySem.W.dataLe false c2) (fun a b c h1 h2 => by
    rw [le] at h1 h2 ⊢
    simp only [Bool.not_eq_true'] at h1 h2 ⊢
    split at h1 <;> split at h2 <;> split <;> simp only [decide_eq_false_iff_not] at * <;> omega) (fun a b => by
    rw [le, le]
    simp only [Bool.or_eq_true, Bool.not_eq_true']
    split <;> split <;> simp only [decide_eq_false_iff_not] <;> omega) ps
  refine h.imp fun {a b} q => ?_
  rw [le] at q
  simp only [Bool.not_eq_true'] at q
  split at q <;> simp only [decide_eq_false_iff_not] at q <;> omega
/-- the rectangles of all stones -/
def recs (rs : List Row) : List Rc := (allB rs).map fun p => rcB p.2.2
def lows (B : List Rc) : List Int := ssI (B.map (fun b => b.2.1) ++ B.map fun b => b.2.2.2)
def slW (B : List Rc) (lo hi : Int) : Int := wdF 0 none (sortT false c2 (slab B lo hi))
def areaF (B : List Rc) : Int := slabs (slW B) (lows B)
theorem areaF_is {mx my : Int} {n : Nat} {B : List Rc} (hB : ∀ b ∈ B, In mx my n b) : areaF B = area mx my n B := by
  refine slabs_area (L := lows B) (w := slW B) hB (ssI_pw _) (fun y => ?_) fun lo hi => ?_
  · show y ∈ ssI _ ↔ _
    rw [ssI_mem, List.mem_append, List.mem_map, List.mem_map]
    constructor
    · rintro (⟨b, hb, rfl⟩ | ⟨b, hb, rfl⟩)
      · exact ⟨b, hb, .inl rfl⟩
      · exact ⟨b, hb, .inr rfl⟩
    · rintro ⟨b, hb, rfl | rfl⟩
      · exact .inl ⟨b, hb, rfl⟩
      · exact .inr ⟨b, hb, rfl⟩
  · unfold slW
    rw [wd_is (m := mx) (n := n) (sort_pw1 _) fun u hu => ?_]
    · refine ct_congr fun x _ _ => ?_
      refine Bool.eq_iff_iff.mpr ?_
      rw [anyI_true, anyI_true]
      constructor <;> (rintro ⟨s, hs, h⟩)
      · exact ⟨s, sortT_mem.mp hs, h⟩
      · exact ⟨s, sortT_mem.mpr hs, h⟩
    · have hu := sortT_mem.mp hu
      unfold slab at hu
      obtain ⟨b, hb, rfl⟩ := List.mem_map.mp hu
      have I := hB b (List.mem_filter.mp hb).1
      exact ⟨I.x0, I.x, I.x1⟩
end
section
variable [Tbl]
/-! ## where rectangles lie -/
theorem px_b {x y : Int} {lg : Lgs} (P : Pt x y lg) : ∀ k, k ≤ lg.length → (-1000 - 60 * (k : Int) ≤ px lg x k ∧ px lg x k ≤ 1000 + 60 * (k : Int)) ∧ (-1000 - 60 * (k : Int) ≤ py lg y k ∧ py lg y k ≤ 1000 + 60 * (k : Int))
  | 0, _ => by have := P.x; have := P.y; simp only [px, py]; omega
  | k + 1, h => by
    have ih := px_b P k (by omega)
    obtain ⟨h1, h2, h3⟩ := P.k (k := k) (by omega)
    simp only [px, py]
    rcases w4 h1 with q | q | q | q <;> rw [q] <;> simp only [dx, dy] <;> omega
theorem rc_in {w : Nat} (h : w < 4) {x y W l : Int} (hx : -1700 ≤ x ∧ x ≤ 1700) (hy : -1700 ≤ y ∧ y ≤ 1700) (hW : 0 < W ∧ W ≤ 9) (hl : 0 < l ∧ l ≤ 100) : In (-2000) (-2000) 4000 (rc w x y W 0 l) := by
  rcases w4 h with rfl | rfl | rfl | rfl <;> (refine ⟨?_, ?_, ?_, ?_, ?_, ?_⟩ <;> simp only [rc] <;> omega)
theorem RwOk.bin {r : Row} (R : RwOk r) {b : Bx} (hb : b ∈ bxs r) : In (-2000) (-2000) 4000 (rcB b) := by
  obtain ⟨k, hk, hb⟩ := List.mem_flatMap.mp hb
  have hk := List.mem_range.mp hk
  obtain ⟨q, hq, rfl⟩ := List.mem_map.mp hb
  have B := R.bk hk hb
  have s := R.st hk hq
  have hn := R.P.n
  have pb := px_b R.P k (by omega)
  have a := ah_b (lg := r.lg) R.w k
  have w := (R.P.k hk).1
  have kk := R.P.k hk
  have m : 0 ≤ mo r.lg r.W k ∧ mo r.lg r.W k ≤ 9 := by have := R.w; unfold mo; split <;> (try split) <;> omega
  have h78 : he r.lg r.W k ≤ 78 := by unfold he; omega
  refine rc_in w ?_ ?_ ⟨by have := B.W; omega, by have := B.W; omega⟩ ⟨by have := B.l; omega, by have := B.l; omega⟩
  · show -1700 ≤ px r.lg r.x k + ah r.lg r.W k * dx (wy r.lg k) + q.1 * dx (wy r.lg k) ∧ px r.lg r.x k + ah r.lg r.W k * dx (wy r.lg k) + q.1 * dx (wy r.lg k) ≤ 1700
    rcases w4 w with z | z | z | z <;> rw [z] <;> simp only [dx] <;> omega
  · show -1700 ≤ py r.lg r.y k + ah r.lg r.W k * dy (wy r.lg k) + q.1 * dy (wy r.lg k) ∧ py r.lg r.y k + ah r.lg r.W k * dy (wy r.lg k) + q.1 * dy (wy r.lg k) ≤ 1700
    rcases w4 w with z | z | z | z <;> rw [z] <;> simp only [dy] <;> omega
/-! ## the program's squares -/
theorem zip_slabs (w : Int → Int → Int) : ∀ (L : List Int) (s : Int), (L.zip (L.drop 1)).foldl (fun s p => s + (p.2 - p.1) * w p.1 p.2) s = s + slabs w L
  | [], s => by simp [slabs]
  | [a], s => by simp [slabs]
  | a :: b :: l, s => by
    have ih := zip_slabs w (b :: l) (s + (b - a) * w a b)
    show ((b :: l).zip ((b :: l).drop 1)).foldl _ (s + (b - a) * w a b) = _
    rw [ih]
    show _ = s + ((b - a) * w a b + slabs w (b :: l))
    omega
section
variable {rs : List Row} (hn : rs.length ≤ 6) (ok : ∀ r ∈ rs, RwOk r)
include ok
theorem recs_in : ∀ b ∈ recs rs, In (-2000) (-2000) 4000 b := fun b hb => by
  obtain ⟨p, hp, rfl⟩ := List.mem_map.mp hb
  unfold allB allN at hp
  obtain ⟨j, _, hp⟩ := List.mem_flatMap.mp hp
  have hm := enB_mem hp
  unfold rwB at hm
  cases h : rs[j]? with
  | none => rw [h] at hm; exact absurd hm (by simp)
  | some r =>
    rw [h] at hm
    exact (ok r (List.mem_of_getElem? h)).bin hm
include hn
theorem r_area_of (st : Sto) : m_area_of [.d (rowsD rs)] st = .ok (.d (.int (areaF (recs rs)))) st := by
  have e1 := fun st => r_need_rows hn ok st
  have e2 := fun st => r_all_stones hn ok st
  have la : (allB rs).length ≤ 500 := by have := allN_len ok rs.length; show (allN rs rs.length).length ≤ 500; omega
  have lr : (recs rs).length ≤ 500 := by unfold recs; rw [List.length_map]; exact la
  have bn := recs_in ok
  have lw : ∀ y ∈ lows (recs rs), -2000 ≤ y ∧ y ≤ 2000 := fun y hy => by
    rw [show lows (recs rs) = ssI _ from rfl, ssI_mem, List.mem_append, List.mem_map, List.mem_map] at hy
    rcases hy with ⟨b, hb, rfl⟩ | ⟨b, hb, rfl⟩ <;> (obtain ⟨i1, i2, i3, i4, i5, i6⟩ := bn b hb; omega)
  have c1 := lcL_mapE (g := gTp (gCn (gN 8) (gCn (gN 9) (gCn (gN 10) gNl)))) (c := eVar 10) (env := [some (.d (rowsD rs)), none, none, none, none, none, none, none, none, none, none]) (st := st) (eN rcb) (fun p => rcb p.2.2) (allB rs) [] (fun p _ => ⟨_, rfl, rfl⟩)
  rw [List.nil_append, show (allB rs).map (fun p => rcb p.2.2) = (recs rs).map rcD from by unfold recs; rw [List.map_map]; rfl] at c1
  have c2' := lcL_mapE (g := gN 10) (c := eOp2 ixD (eVar 10) (eK (.int 1))) (env := [some (.d (rowsD rs)), some (.d (.list ((recs rs).map rcD))), none, none, none, none, none, none, none, none, none]) (st := st) rcD (fun b => .int b.2.1) (recs rs) [] (fun p _ => ⟨_, rfl, by simp -implicitDefEqProofs [rcD]⟩)
  have c3 := lcL_mapE (g := gN 10) (c := eOp2 ixD (eVar 10) (eK (.int 3))) (env := [some (.d (rowsD rs)), some (.d (.list ((recs rs).map rcD))), none, none, none, none, none, none, none, none, none]) (st := st) rcD (fun b => .int b.2.2.2) (recs rs) [] (fun p _ => ⟨_, rfl, by simp -implicitDefEqProofs [rcD]⟩)
  rw [List.nil_append, show (recs rs).map (fun b => PyData.int b.2.1) = ((recs rs).map fun b => b.2.1).map .int from by rw [List.map_map]; rfl] at c2'
  rw [List.nil_append, show (recs rs).map (fun b => PyData.int b.2.2.2) = ((recs rs).map fun b => b.2.2.2).map .int from by rw [List.map_map]; rfl] at c3
  have ad : addD (.list (((recs rs).map fun b => b.2.1).map .int)) (.list (((recs rs).map fun b => b.2.2.2).map .int)) = some (.list (((recs rs).map (fun b => b.2.1) ++ (recs rs).map fun b => b.2.2.2).map .int)) := by
    rw [o_add_l, if_pos (by simp; omega), List.map_append]
  have ss : ssF [.list (((recs rs).map (fun b => b.2.1) ++ (recs rs).map fun b => b.2.2.2).map .int)] = some (.list ((lows (recs rs)).map .int)) := by
    rw [o_ss, if_pos (by simp; omega)]
    rfl
  have ll : (lows (recs rs)).length ≤ 1000 := by
    have := ssI_len ((recs rs).map (fun b => b.2.1) ++ (recs rs).map fun b => b.2.2.2)
    have e : ((recs rs).map (fun b => b.2.1) ++ (recs rs).map fun b => b.2.2.2).length ≤ 1000 := by simp; omega
    exact Nat.le_trans this e
  generalize hB : recs rs = B at *
  generalize hL : lows B = L at *
  have sl : slD (some 1) none (.list (L.map .int)) = some (.list ((L.drop 1).map .int)) := by
    show some (PyData.list (cutD (L.map .int) (some ((1 : Nat) : Int)) none)) = _
    rw [cutD_drop, List.map_drop]
  have zp : ∀ st, zip2W [.d (.list (L.map .int)), .d (.list ((L.drop 1).map .int))] st = .ok ⟨(L.zip (L.drop 1)).map c2, []⟩ st := fun st => by
    show Rs.ok (Sc.mk (List.zipWith pairD (L.map .int) ((L.drop 1).map .int)) ([] ++ [])) st = _
    rw [List.zipWith_map, List.zip, List.map_zipWith]
    rfl
  obtain ⟨lp, _⟩ := forL_fold (g := gTp (gCn (gN 4) (gCn (gN 5) gNl))) (b := d_area_of_l1) c2 (fun s : Int => [some (.d (rowsD rs)), some (.d (.list (B.map rcD))), some (.d (.list (L.map .int))), some (.d (.int (s))), none, none, none, none, none, none, none]) (fun _ => st) (fun s p => s + (p.2 - p.1) * slW B p.1 p.2) (fun _ => True) (L.zip (L.drop 1)) (fun s p hp _ => by
    obtain ⟨lo, hi⟩ := p
    refine ⟨_, rfl, ?_, trivial⟩
    have h1 := lw lo (List.of_mem_zip hp).1
    have h2 := lw hi (List.mem_of_mem_drop (List.of_mem_zip hp).2)
    have fl := lcL_filterE (g := gN 10) (t := tAnd2 (tBl (eOp2 leD (eOp2 ixD (eVar 10) (eK (.int 1))) (eVar 4))) (tBl (eOp2 leD (eVar 5) (eOp2 ixD (eVar 10) (eK (.int 3)))))) (c := eTup (aCons (eOp2 ixD (eVar 10) (eK (.int 0))) (aCons (eOp2 ixD (eVar 10) (eK (.int 2))) aNil))) (env := [some (.d (rowsD rs)), some (.d (.list (B.map rcD))), some (.d (.list (L.map .int))), some (.d (.int (s))), some (.d (.int (lo))), some (.d (.int (hi))), none, none, none, none, none]) (st := st) rcD (fun b => c2 (b.1, b.2.2.1)) (fun b => decide (b.2.1 ≤ lo) && decide (hi ≤ b.2.2.2)) B [] (fun b _ => by
      refine ⟨_, rfl, ?_, fun _ => ?_⟩
      · show (tAnd2 (tBl (eOp2 leD (eOp2 ixD (eVar 10) (eK (.int 1))) (eVar 4))) (tBl (eOp2 leD (eVar 5) (eOp2 ixD (eVar 10) (eK (.int 3)))))) [some (.d (rowsD rs)), some (.d (.list (B.map rcD))), some (.d (.list (L.map .int))), some (.d (.int (s))), some (.d (.int (lo))), some (.d (.int (hi))), none, none, none, none, some (.d (rcD b))] st = _
        generalize rowsD rs = RR at *
        generalize B.map rcD = BB at *
        generalize L.map PyData.int = LL at *
        unfold rcD
        by_cases q : b.2.1 ≤ lo <;> simp -implicitDefEqProofs [q]
      · show (eTup (aCons (eOp2 ixD (eVar 10) (eK (.int 0))) (aCons (eOp2 ixD (eVar 10) (eK (.int 2))) aNil))) [some (.d (rowsD rs)), some (.d (.list (B.map rcD))), some (.d (.list (L.map .int))), some (.d (.int (s))), some (.d (.int (lo))), some (.d (.int (hi))), none, none, none, none, some (.d (rcD b))] st = _
        generalize rowsD rs = RR at *
        generalize B.map rcD = BB at *
        generalize L.map PyData.int = LL at *
        unfold rcD c2
        simp -implicitDefEqProofs [tupW])
    rw [List.nil_append, show (B.filter fun b => decide (b.2.1 ≤ lo) && decide (hi ≤ b.2.2.2)).map (fun b => c2 (b.1, b.2.2.1)) = (slab B lo hi).map c2 from by unfold slab; rw [List.map_map]; rfl] at fl
    have lsl : (slab B lo hi).length ≤ 1000 := by
      unfold slab
      rw [List.length_map]
      have := List.length_filter_le (fun b : Rc => decide (b.2.1 ≤ lo) && decide (hi ≤ b.2.2.2)) B
      omega
    have sr := srt_c2 (slab B lo hi) (by omega)
    have wo := fun st => r_wide_of (sortT false c2 (slab B lo hi)) (by rw [sortT_len]; omega) st
    have bk : bigOk (hi - lo) (slW B lo hi) = true := by
      unfold bigOk
      rw [decide_eq_true (show (hi - lo).natAbs < 18446744073709551616 by omega)]
      rfl
    show d_area_of_l1 [some (.d (rowsD rs)), some (.d (.list (B.map rcD))), some (.d (.list (L.map .int))), some (.d (.int (s))), some (.d (.int (lo))), some (.d (.int (hi))), none, none, none, none, none] st = _
    have lB : (B.map rcD).length ≤ 1000000 := by rw [List.length_map]; omega
    have wo : ∀ st, m_wide_of [.d (.list ((sortT false c2 (slab B lo hi)).map c2))] st = .ok (.d (.int (slW B lo hi))) st := wo
    generalize (sortT false c2 (slab B lo hi)).map c2 = S2 at *
    generalize (slab B lo hi).map c2 = S1 at *
    generalize slW B lo hi = WW at *
    generalize rowsD rs = RR at *
    generalize B.map rcD = BB at *
    generalize L.map PyData.int = LL at *
    unfold d_area_of_l1
    simp -implicitDefEqProofs [srcW_dl, lB, fl, sr, wo, bk, wipeE]) 0 trivial
  rw [zip_slabs, Int.zero_add, ← hL] at lp
  rw [show slabs (slW B) (lows B) = areaF B from rfl, hL] at lp
  have lz : ((L.zip (L.drop 1)).map c2).length ≤ 1000000 := by simp; omega
  have lB : (B.map rcD).length ≤ 1000000 := by rw [List.length_map]; omega
  have lA : ((allB rs).map (eN rcb)).length ≤ 1000000 := by rw [List.length_map]; omega
  generalize areaF B = AA at *
  generalize (L.zip (L.drop 1)).map c2 = ZZ at *
  generalize (L.drop 1).map PyData.int = L2 at *
  generalize L.map PyData.int = LL at *
  generalize (B.map (fun b => b.2.1) ++ B.map fun b => b.2.2.2).map PyData.int = YY at *
  generalize (B.map fun b => b.2.1).map PyData.int = Y1 at *
  generalize (B.map fun b => b.2.2.2).map PyData.int = Y2 at *
  generalize B.map rcD = BB at *
  generalize (allB rs).map (eN rcb) = NN at *
  generalize rowsD rs = RR at *
  unfold m_area_of d_area_of
  simp -implicitDefEqProofs [e1, e2, srcW_dl, lA, c1, lB, c2', c3, ad, ss, sl, zp, lz, lp, -forL_cons]
end
end
section
variable [Tbl]
/-! ## which lie over one another (plain) -/
theorem recs_flat (rs : List Row) : recs rs = rs.flatMap fun r => (bxs r).map rcB := by
  unfold recs allB allN
  rw [List.map_flatMap]
  have e : ∀ j, (enB j (rwB rs j)).map (fun p => rcB p.2.2) = (((rs[j]?).map bxs).getD []).map rcB := fun j => by
    unfold enB rwB
    refine List.ext_getElem (by simp) fun i h1 h2 => ?_
    simp
  rw [show (fun j => (enB j (rwB rs j)).map fun p => rcB p.2.2) = fun j => (((rs[j]?).map bxs).getD []).map rcB from funext e]
  have g : ∀ (l : List Row), (List.range l.length).flatMap (fun j => (((l[j]?).map bxs).getD []).map rcB) = l.flatMap fun r => (bxs r).map rcB := fun l => by
    induction l with
    | nil => rfl
    | cons r l ih =>
      rw [List.length_cons, List.range_succ_eq_map, List.flatMap_cons, List.flatMap_map, List.flatMap_cons, ← ih]
      rfl
  exact g rs
/-- none lies over another one -/
def Apt (B : List Rc) : Prop := B.Pairwise fun a b => covB a b = false
theorem q2_none {A : List Nb} {z : Nat × Nb} : q2 A z = none ↔ ∀ p2 ∈ A.drop (z.1 + 1), covB (rcB z.2.2.2) (rcB p2.2.2) = false := by
  unfold q2
  rw [List.findSome?_eq_none_iff]
  constructor
  · intro h p2 hp
    have := h p2 hp
    unfold q1 at this
    split at this
    · cases this
    · rename_i q; exact Bool.eq_false_iff.mpr q
  · intro h p2 hp
    unfold q1
    rw [if_neg (by rw [h p2 hp]; exact Bool.false_ne_true)]
theorem ov_none {rs : List Row} : ovR (allB rs) = none ↔ Apt (recs rs) := by
  unfold ovR Apt recs
  rw [List.findSome?_eq_none_iff, List.pairwise_iff_getElem]
  constructor
  · intro h i j hi hj lt
    rw [List.length_map] at hi hj
    have := q2_none.mp (h (i, (allB rs)[i]) (List.mem_mapIdx.mpr ⟨i, hi, rfl⟩)) (allB rs)[j] (by
      rw [List.mem_iff_getElem]
      exact ⟨j - (i + 1), by rw [List.length_drop]; dsimp only; omega, by rw [List.getElem_drop]; congr 1; dsimp only; omega⟩)
    simpa using this
  · intro h z hz
    obtain ⟨i, hi, rfl⟩ := List.mem_mapIdx.mp hz
    refine q2_none.mpr fun p2 hp => ?_
    obtain ⟨k, hk, rfl⟩ := List.getElem_of_mem hp
    rw [List.length_drop] at hk
    dsimp only at hk
    have := h i (i + 1 + k) (by rw [List.length_map]; exact hi) (by rw [List.length_map]; omega) (by omega)
    simp only [List.getElem_map] at this
    rw [List.getElem_drop]
    exact this
theorem ovD_none {rs : List Row} : ovD (allB rs) = .none ↔ Apt (recs rs) := by
  rw [← ov_none]
  rcases ov_is (allB rs) with q | ⟨p, _, p2, _, q⟩
  · unfold ovD; rw [q]; simp
  · unfold ovD; rw [q]; simp
/-- what is told, lies over one another -/
theorem ov_cov {A : List Nb} {r : Rt} (e : ovR A = some r) : ∃ p ∈ A, ∃ p2 ∈ A, covB (rcB p.2.2) (rcB p2.2.2) = true ∧ r = .w (.d (.tuple [.int p.1, .int p.2.1, .int p2.1, .int p2.2.1])) := by
  unfold ovR at e
  obtain ⟨z, hz, e⟩ := findSome_mem e
  obtain ⟨i, hi, rfl⟩ := List.mem_mapIdx.mp hz
  unfold q2 at e
  obtain ⟨p2, h2, e⟩ := findSome_mem e
  unfold q1 at e
  split at e
  · rename_i c
    cases e
    exact ⟨_, List.getElem_mem hi, p2, List.mem_of_mem_drop h2, c, rfl⟩
  · cases e
theorem nb_at {rs : List Row} {p : Nb} (h : p ∈ allB rs) : ∃ r, rs[p.1]? = some r ∧ (bxs r)[p.2.1]? = some p.2.2 := by
  unfold allB allN at h
  obtain ⟨j, _, h⟩ := List.mem_flatMap.mp h
  unfold enB at h
  obtain ⟨i, hi, rfl⟩ := List.mem_mapIdx.mp h
  dsimp only
  have g : (rwB rs j)[i]? = some ((rwB rs j)[i]) := List.getElem?_eq_getElem hi
  rw [← g]
  unfold rwB at hi ⊢
  cases e : rs[j]? with
  | none => rw [e] at hi; exact absurd hi (by simp)
  | some r => exact ⟨r, rfl, rfl⟩
/-! ## moved -/
def mvR (r : Row) : Row := { r with x := r.x + 9, y := r.y - 4 }
def mvB (b : Bx) : Bx := { b with x := b.x + 9, y := b.y - 4 }
theorem px_mv (lg : Lgs) (x d : Int) : ∀ k, px lg (x + d) k = px lg x k + d
  | 0 => rfl
  | k + 1 => by simp only [px, px_mv lg x d k]; omega
theorem py_mv (lg : Lgs) (y d : Int) : ∀ k, py lg (y + d) k = py lg y k + d
  | 0 => rfl
  | k + 1 => by simp only [py, py_mv lg y d k]; omega
theorem bx_mv (r : Row) (k : Nat) (q : Int × Int) : bx (mvR r) k q = mvB (bx r k q) := by
  unfold bx mvB mvR sx sy
  dsimp only
  rw [px_mv r.lg r.x 9, show r.y - 4 = r.y + (-4) from rfl, py_mv r.lg r.y (-4)]
  congr 1 <;> omega
theorem bxs_mv (r : Row) : bxs (mvR r) = (bxs r).map mvB := by
  unfold bxs bxK
  rw [List.map_flatMap]
  refine congrArg (fun f => List.flatMap f (List.range r.lg.length)) (funext fun k => ?_)
  rw [List.map_map]
  exact List.map_congr_left fun q _ => bx_mv r k q
theorem rcB_mv (b : Bx) : rcB (mvB b) = shR 9 (-4) (rcB b) := by
  obtain ⟨w, x, y, W, l⟩ := b
  unfold rcB mvB rc shR
  dsimp only
  have t1 : ∀ a b c d a2 b2 c2 d2 : Int, a = a2 → b = b2 → c = c2 → d = d2 → ((a, b, c, d) : Rc) = (a2, b2, c2, d2) := fun _ _ _ _ _ _ _ _ h1 h2 h3 h4 => by rw [h1, h2, h3, h4]
  split <;> (refine t1 _ _ _ _ _ _ _ _ ?_ ?_ ?_ ?_ <;> dsimp only <;> omega)
theorem recs_mv (rs : List Row) : recs (rs.map mvR) = (recs rs).map (shR 9 (-4)) := by
  rw [recs_flat, recs_flat, List.flatMap_map, List.map_flatMap]
  refine congrArg (fun f => List.flatMap f rs) (funext fun r => ?_)
  rw [bxs_mv, List.map_map, List.map_map]
  exact List.map_congr_left fun b _ => rcB_mv b
def mvN (p : Nb) : Nb := (p.1, p.2.1, mvB p.2.2)
theorem allB_mv (rs : List Row) : allB (rs.map mvR) = (allB rs).map mvN := by
  unfold allB allN
  rw [List.length_map, List.map_flatMap]
  refine congrArg (fun f => List.flatMap f (List.range rs.length)) (funext fun j => ?_)
  unfold enB rwB
  rw [List.getElem?_map]
  cases rs[j]? with
  | none => rfl
  | some r =>
    simp only [Option.map_some, Option.getD_some, bxs_mv]
    refine List.ext_getElem (by simp) fun i h1 h2 => ?_
    simp [mvN]
theorem covB_sh (a b : Rc) (dx dy : Int) : covB (shR dx dy a) (shR dx dy b) = covB a b := by
  unfold covB shR
  dsimp only
  congr 1
  · exact decide_eq_decide.mpr ⟨fun h => by omega, fun h => by omega⟩
  · congr 1
    · exact decide_eq_decide.mpr ⟨fun h => by omega, fun h => by omega⟩
    · congr 1 <;> exact decide_eq_decide.mpr ⟨fun h => by omega, fun h => by omega⟩
theorem q1_mv (p p2 : Nb) : q1 (mvN p) (mvN p2) = q1 p p2 := by
  unfold q1 mvN
  dsimp only
  rw [rcB_mv, rcB_mv, covB_sh]
theorem ov_mv (rs : List Row) : ovD (allB (rs.map mvR)) = ovD (allB rs) := by
  have e : ovR (allB (rs.map mvR)) = ovR (allB rs) := by
    rw [allB_mv]
    generalize allB rs = A
    unfold ovR
    rw [show ((A.map mvN).mapIdx fun i p => (i, p)) = (A.mapIdx fun i p => (i, p)).map fun z => (z.1, mvN z.2) from List.ext_getElem (by simp) fun i h1 h2 => by simp, List.findSome?_map]
    refine congrArg (fun f => List.findSome? f _) (funext fun z => ?_)
    show q2 (A.map mvN) (z.1, mvN z.2) = q2 A z
    unfold q2
    dsimp only
    rw [← List.map_drop, List.findSome?_map]
    refine congrArg (fun f => List.findSome? f _) (funext fun p2 => ?_)
    exact q1_mv z.2 p2
  unfold ovD
  rw [e]
theorem area_mv {rs : List Row} (ok : ∀ r ∈ rs, RwOk r) : areaF (recs (rs.map mvR)) = areaF (recs rs) := by
  have h := recs_in ok
  rw [recs_mv, areaF_is h, areaF_is (mx := -2000 + 9) (my := -2000 + (-4)) (n := 4000) fun b hb => ?_, area_sh]
  obtain ⟨a, ha, rfl⟩ := List.mem_map.mp hb
  exact (h a ha).sh 9 (-4)
end
section
variable [Tbl]
theorem r_need_path {x y : Int} {lg : Lgs} (P : Pt x y lg) (st : Sto) : m_need_path [.d (ptD x y lg)] st = .ok (.d .none) st := by
  have e := fun st => r_is_path (ptD x y lg) st
  rw [P.isPath] at e
  generalize ptD x y lg = D at *
  unfold m_need_path d_need_path
  simp -implicitDefEqProofs [e]
theorem r_need_width {W : Int} (hW : 1 ≤ W ∧ W ≤ 9) (st : Sto) : m_need_width [(.d (.int (W)))] st = .ok (.d .none) st := by
  unfold m_need_width d_need_width
  simp -implicitDefEqProofs [r_is_from_to, w_MOST_WIDTH, isFT, hW.1, hW.2]
theorem sum_sl : ∀ t : Sts, sumF [.list ((t.map fun q => q.2).map .int)] = some (.int (t.map fun q => q.2).sum) := fun t => o_sum_l _
section
variable {r : Row} (R : RwOk r)
include R
theorem r_strips (st : Sto) : m_strips [.d (ptD r.x r.y r.lg), (.d (.int (r.W)))] st = .ok (.d (.list ((List.range r.lg.length).map (stD r.lg r.x r.y r.W)))) st := by
  have e1 := fun st => r_need_path R.P st
  have e2 := fun st => r_need_width R.w st
  have e3 := fun st => r_strips_ok R st
  generalize (List.range r.lg.length).map (stD r.lg r.x r.y r.W) = SS at *
  generalize ptD r.x r.y r.lg = PD at *
  unfold m_strips d_strips
  simp -implicitDefEqProofs [e1, e2, e3]
theorem r_rect_of {k : Nat} (hk : k < r.lg.length) {s e : Int} (hs : 0 ≤ s ∧ s < e ∧ e ≤ he r.lg r.W k) (st : Sto) : m_rect_of [.d (ptD r.x r.y r.lg), (.d (.int (r.W))), (.d (.int ((k : Int)))), (.d (.int (s))), (.d (.int (e)))] st = .ok (.d (rcD (rc (wy r.lg k) (sx r.lg r.x r.W k) (sy r.lg r.y r.W k) r.W s e))) st := by
  have e1 := fun st => r_need_path R.P st
  have e2 := fun st => r_need_width R.w st
  have e3 := fun st => r_strips_ok R st
  have e4 : ixD (ptD r.x r.y r.lg) (.int 2) = some (.tuple (r.lg.map lgD)) := rfl
  have e5 : ixD (.list ((List.range r.lg.length).map (stD r.lg r.x r.y r.W))) (.int (k : Int)) = some (stD r.lg r.x r.y r.W k) := by
    show atD _ (k : Int) = _
    rw [atD_nat, List.getElem?_map, List.getElem?_range hk]; rfl
  have e6 : ixD (stD r.lg r.x r.y r.W k) (.int 3) = some (.int (he r.lg r.W k)) := rfl
  have e7 := fun st => r_rectangle (R.P.k hk).1 (sx r.lg r.x r.W k) (sy r.lg r.y r.W k) (he r.lg r.W k) r.W s e st
  have e7 : ∀ st, m_rectangle [.d (stD r.lg r.x r.y r.W k), (.d (.int (r.W))), (.d (.int (s))), (.d (.int (e)))] st = .ok (.d (rcD (rc (wy r.lg k) (sx r.lg r.x r.W k) (sy r.lg r.y r.W k) r.W s e))) st := e7
  have f1 : isFT (.int (k : Int)) 0 ((r.lg.length : Int) - 1) = true := by simp [isFT]; omega
  have f2 : isFT (.int s) 0 (he r.lg r.W k - 1) = true := by simp [isFT]; omega
  have f3 : isFT (.int e) (s + 1) (he r.lg r.W k) = true := by simp [isFT]; omega
  have ln : lenF [.tuple (r.lg.map lgD)] = some (.int (r.lg.length : Nat)) := by simp
  generalize rcD (rc (wy r.lg k) (sx r.lg r.x r.W k) (sy r.lg r.y r.W k) r.W s e) = RC at *
  generalize stD r.lg r.x r.y r.W k = SD at *
  generalize (List.range r.lg.length).map (stD r.lg r.x r.y r.W) = SS at *
  generalize PyData.tuple (r.lg.map lgD) = LD at *
  generalize ptD r.x r.y r.lg = PD at *
  unfold m_rect_of d_rect_of
  simp -implicitDefEqProofs [e1, e2, e3, e4, e5, e6, e7, r_is_from_to, f1, f2, f3, ln]
/-- the least places of a strip that none of its stones holds -/
def jnK (r : Row) (k : Nat) : Int := r.W * (he r.lg r.W k - ((lay r k).map fun q => q.2).sum)
theorem r_joints_of (st : Sto) : m_joints_of [.d (rowD r)] st = .ok (.d (.list ((List.range r.lg.length).map fun k => PyData.int (jnK r k)))) st := by
  have e1 := fun st => r_need_row R st
  have e3 := fun st => r_strips_ok R st
  have hn := R.P.n
  have lp := forL_at (g := gTp (gCn (gN 2) (gCn (gN 3) gNl))) (b := d_joints_of_l1) (fun _ => [some (.d (rowD r)), some (.r st.length), none, none, none, none, none]) (fun i => st ++ [.lst ((List.range i).map fun k => PyData.int (jnK r k))]) ((List.range r.lg.length).map fun k => pairD (stsD (lay r k)) (stD r.lg r.x r.y r.W k)) (fun i x hx => by
    obtain ⟨hi, rfl⟩ := rng_get hx
    refine ⟨_, rfl, ?_⟩
    show d_joints_of_l1 [some (.d (rowD r)), some (.r st.length), some (.d (stsD (lay r i))), some (.d (stD r.lg r.x r.y r.W i)), none, none, none] _ = _
    generalize hst : (st ++ [Ob.lst ((List.range i).map fun k => PyData.int (jnK r k))]) = st1
    have g1 : st1[st.length]? = some (.lst ((List.range i).map fun k => PyData.int (jnK r k))) := by rw [← hst]; simp
    have e2 := lcL_mapE (g := gTp (gCn (gN 5) (gCn (gN 6) gNl))) (c := eVar 6) (env := [some (.d (rowD r)), some (.r st.length), some (.d (stsD (lay r i))), some (.d (stD r.lg r.x r.y r.W i)), none, none, none]) (st := st1) c2 (fun q => .int q.2) (lay r i) [] (fun q _ => ⟨_, rfl, rfl⟩)
    rw [List.nil_append, show (lay r i).map (fun q => PyData.int q.2) = ((lay r i).map fun q => q.2).map .int from by rw [List.map_map]; rfl] at e2
    have sm := sum_sl (lay r i)
    have l3 : ((lay r i).map c2).length ≤ 1000000 := by rw [List.length_map]; have := (R.s i hi).1.2; omega
    have ap := appW_l g1 (by rw [List.length_map, List.length_range]; omega) (PyData.int (jnK r i))
    rw [← rng_succ, show st1.set st.length (.lst ((List.range (i + 1)).map fun k => PyData.int (jnK r k))) = st ++ [.lst ((List.range (i + 1)).map fun k => PyData.int (jnK r k))] from by rw [← hst]; simp] at ap
    have il := isLst_l g1
    have ew : ixD (rowD r) (.int 1) = some (.int r.W) := rfl
    have e6 : ixD (stD r.lg r.x r.y r.W i) (.int 3) = some (.int (he r.lg r.W i)) := rfl
    have bk : bigOk r.W (he r.lg r.W i - ((lay r i).map fun q => q.2).sum) = true := by
      unfold bigOk
      have := R.w
      rw [decide_eq_true (show r.W.natAbs < 18446744073709551616 by omega)]
      rfl
    have ej : r.W * (he r.lg r.W i - ((lay r i).map fun q => q.2).sum) = jnK r i := rfl
    unfold stsD at *
    generalize (lay r i).map c2 = TT at *
    generalize ((lay r i).map fun q => q.2).map PyData.int = BB at *
    generalize ((lay r i).map fun q => q.2).sum = ZZ at *
    generalize jnK r i = JK at *
    generalize (List.range (i + 1)).map (fun k => PyData.int (jnK r k)) = F2 at *
    generalize stD r.lg r.x r.y r.W i = SD at *
    generalize rowD r = RD at *
    unfold d_joints_of_l1
    simp -implicitDefEqProofs [srcW_dt, e2, l3, sm, ew, e6, bk, ej, wipeE, il, ap])
  rw [List.length_map, List.length_range] at lp
  have z := zip_st r R.n
  have l5 : ((List.range r.lg.length).map fun k => pairD (stsD (lay r k)) (stD r.lg r.x r.y r.W k)).length ≤ 1000000 := by rw [List.length_map, List.length_range]; omega
  have ef := x_end_fr (n := st.length) (i := st.length) (xs := (List.range r.lg.length).map fun k => PyData.int (jnK r k)) (st := st ++ [.lst ((List.range r.lg.length).map fun k => PyData.int (jnK r k))]) (Nat.le_refl _) (by simp)
  rw [show (st ++ [Ob.lst ((List.range r.lg.length).map fun k => PyData.int (jnK r k))]).take st.length = st by simp] at ef
  have z0 : (List.range 0).map (fun k => PyData.int (jnK r k)) = [] := rfl
  rw [z0] at lp
  have ep : ixD (rowD r) (.int 0) = some (ptD r.x r.y r.lg) := rfl
  have ew : ixD (rowD r) (.int 1) = some (.int r.W) := rfl
  have el : ixD (rowD r) (.int 2) = some (.tuple (r.laid.map stsD)) := rfl
  generalize ((List.range r.lg.length).map fun k => pairD (stsD (lay r k)) (stD r.lg r.x r.y r.W k)) = ZZ at *
  generalize (List.range r.lg.length).map (stD r.lg r.x r.y r.W) = SS at *
  generalize r.laid.map stsD = LL at *
  generalize ptD r.x r.y r.lg = PD at *
  generalize (List.range r.lg.length).map (fun k => PyData.int (jnK r k)) = RR at *
  generalize rowD r = RD at *
  unfold m_joints_of d_joints_of
  simp -implicitDefEqProofs [newW, ep, ew, el, e1, e3, zip2W, z, l5, lp, ef, -forL_cons]
end
theorem r_law_area {b : Rc} (h : (b.2.2.1 - b.1).natAbs < 1000000) (st : Sto) : m__law_area [.d (rcD b)] st = .ok (.d (.int (rA b))) st := by
  have bk : bigOk (b.2.2.1 - b.1) (b.2.2.2 - b.2.1) = true := by
    unfold bigOk
    rw [decide_eq_true (show (b.2.2.1 - b.1).natAbs < 18446744073709551616 by omega)]
    rfl
  unfold m__law_area d__law_area rcD rA
  simp -implicitDefEqProofs [bk]
/-! ## how far apart -/
def gapI (a b : Rc) : Int := max 0 (max (a.1 - b.2.2.1) (max (b.1 - a.2.2.1) (max (a.2.1 - b.2.2.2) (b.2.1 - a.2.2.2))))
theorem r_gap_of (a b : Rc) (st : Sto) : m_gap_of [.d (rcD a), .d (rcD b)] st = .ok (.d (.int (gapI a b))) st := by
  unfold m_gap_of d_gap_of rcD gapI
  simp -implicitDefEqProofs
theorem gap_sym (a b : Rc) : gapI a b = gapI b a := by unfold gapI; omega
theorem gap_cov {a b : Rc} (h : covB a b = true) : gapI a b = 0 := by
  unfold covB at h
  simp only [Bool.and_eq_true, decide_eq_true_eq] at h
  unfold gapI
  omega
end
section
variable [Tbl]
open PySem.W (Datum DatumOrd Tup minOf maxOf)
/-! ## a rectangle by its squares -/
theorem minI_le : ∀ (xs : List Int) (x : Int), ∀ y ∈ x :: xs, minOf x xs ≤ y
  | [], x, y, hy => by simp at hy; rw [hy]; exact Int.le_refl _
  | z :: xs, x, y, hy => by
    have e : minOf x (z :: xs) = minOf (if DatumOrd.lt z x = true then z else x) xs := rfl
    have ih := minI_le xs (if DatumOrd.lt z x = true then z else x)
    have l : (DatumOrd.lt z x = true) ↔ z < x := by show decide (z < x) = true ↔ _; exact decide_eq_true_iff
    rw [e]
    by_cases q : z < x
    · rw [if_pos (l.mpr q)] at ih ⊢
      have h0 := ih z (by simp)
      rcases List.mem_cons.mp hy with rfl | hy
      · omega
      · exact ih y hy
    · rw [if_neg fun h => q (l.mp h)] at ih ⊢
      have h0 := ih x (by simp)
      rcases List.mem_cons.mp hy with rfl | hy
      · exact h0
      · rcases List.mem_cons.mp hy with rfl | hy
        · omega
        · exact ih y (by simp [hy])
theorem min_is {L : List Int} {m : Int} (h : m ∈ L) (hl : ∀ x ∈ L, m ≤ x) : bestF PySem.W.minD [.list (L.map .int)] = some (.int m) := by
  cases L with
  | nil => cases h
  | cons x xs =>
    have q : bestF PySem.W.minD [.list ((x :: xs).map .int)] = some (.int (minOf x xs)) := q_min x xs
    rw [q, Int.le_antisymm (minI_le xs x m h) (hl _ (minOf_mem xs x))]
end
section
variable [Tbl]
/-! ## the nearest stones of two rows -/
def gaps (r o : Row) : List Int := (bxs r).flatMap fun a => (bxs o).map fun b => gapI (rcB a) (rcB b)
theorem gaps_mem {r o : Row} {g : Int} : g ∈ gaps r o ↔ ∃ a ∈ bxs r, ∃ b ∈ bxs o, g = gapI (rcB a) (rcB b) := by
  unfold gaps
  rw [List.mem_flatMap]
  constructor
  · rintro ⟨a, ha, h⟩
    obtain ⟨b, hb, rfl⟩ := List.mem_map.mp h
    exact ⟨a, ha, b, hb, rfl⟩
  · rintro ⟨a, ha, b, hb, rfl⟩
    exact ⟨a, ha, List.mem_map.mpr ⟨b, hb, rfl⟩⟩
theorem RwOk.some {r : Row} (R : RwOk r) : ∃ b, b ∈ bxs r := by
  have hn := R.P.n
  have s := (R.s 0 (by omega)).1
  cases e : lay r 0 with
  | nil => rw [e] at s; simp at s
  | cons q l => exact ⟨bx r 0 q, List.mem_flatMap.mpr ⟨0, List.mem_range.mpr (by omega), List.mem_map.mpr ⟨q, by rw [e]; simp, rfl⟩⟩⟩
theorem least_of : ∀ (L : List Int), L ≠ [] → ∃ m ∈ L, ∀ x ∈ L, m ≤ x
  | [], h => absurd rfl h
  | [a], _ => ⟨a, by simp, fun x hx => by rw [show x = a by simpa using hx]; exact Int.le_refl _⟩
  | a :: b :: L, _ => by
    obtain ⟨m, hm, hl⟩ := least_of (b :: L) (List.cons_ne_nil _ _)
    by_cases c : a ≤ m
    · refine ⟨a, by simp, fun x hx => ?_⟩
      rcases List.mem_cons.mp hx with rfl | hx
      · exact Int.le_refl _
      · have := hl x hx; omega
    · refine ⟨m, by simp [hm], fun x hx => ?_⟩
      rcases List.mem_cons.mp hx with rfl | hx
      · omega
      · exact hl x hx
theorem flat_len {α β : Type} (f : α → List β) (m : Nat) : ∀ L : List α, (∀ a ∈ L, (f a).length ≤ m) → (L.flatMap f).length ≤ L.length * m
  | [], _ => by simp
  | a :: L, h => by
    have := flat_len f m L fun b hb => h b (by simp [hb])
    have := h a (by simp)
    rw [List.flatMap_cons, List.length_append, List.length_cons, Nat.succ_mul]
    omega
theorem r_apart {r o : Row} (R : RwOk r) (O : RwOk o) : ∃ m : Int, (∀ st, m_apart [.d (rowD r), .d (rowD o)] st = .ok (.d (.int m)) st) ∧ m ∈ gaps r o ∧ ∀ g ∈ gaps r o, m ≤ g := by
  have ne : gaps r o ≠ [] := fun z => by
    obtain ⟨a, ha⟩ := R.some
    obtain ⟨b, hb⟩ := O.some
    have := gaps_mem.mpr ⟨a, ha, b, hb, rfl⟩
    rw [z] at this
    cases this
  obtain ⟨m, hm, hl⟩ := least_of (gaps r o) ne
  refine ⟨m, fun st => ?_, hm, hl⟩
  have e1 := fun st => r_need_row R st
  have e2 := fun st => r_need_row O st
  have e3 := fun st => r_rectangles R st
  have e4 := fun st => r_rectangles O st
  have l1 := R.len
  have l2 := O.len
  have lp := forL_at (g := gN 3) (b := d_apart_l1) (fun _ => [some (.d (rowD r)), some (.d (rowD o)), some (.r st.length), none, none, none]) (fun i => st ++ [.lst ((((bxs r).take i).flatMap fun a => (bxs o).map fun b => gapI (rcB a) (rcB b)).map .int)]) ((bxs r).map rcb) (fun i x hx => by
    have hi : i < (bxs r).length := by have := (List.getElem?_eq_some_iff.mp hx).1; rwa [List.length_map] at this
    rw [List.getElem?_map, List.getElem?_eq_getElem hi] at hx
    cases hx
    refine ⟨_, rfl, ?_⟩
    show d_apart_l1 [some (.d (rowD r)), some (.d (rowD o)), some (.r st.length), some (.d (rcb (bxs r)[i])), none, none] _ = _
    generalize hst : (st ++ [Ob.lst ((((bxs r).take i).flatMap fun a => (bxs o).map fun b => gapI (rcB a) (rcB b)).map .int)]) = st1
    have g1 : st1[st.length]? = some (.lst ((((bxs r).take i).flatMap fun a => (bxs o).map fun b => gapI (rcB a) (rcB b)).map .int)) := by rw [← hst]; simp
    have c1 := lcL_mapE (g := gN 5) (c := eCall m_gap_of (aCons (eVar 3) (aCons (eVar 5) aNil))) (env := [some (.d (rowD r)), some (.d (rowD o)), some (.r st.length), some (.d (rcb (bxs r)[i])), none, none]) (st := st1) rcb (fun b => PyData.int (gapI (rcB (bxs r)[i]) (rcB b))) (bxs o) [] (fun b _ => ⟨_, rfl, by
      have eg := fun st => r_gap_of (rcB (bxs r)[i]) (rcB b) st
      show (eCall m_gap_of (aCons (eVar 3) (aCons (eVar 5) aNil))) [some (.d (rowD r)), some (.d (rowD o)), some (.r st.length), some (.d (rcD (rcB (bxs r)[i]))), none, some (.d (rcD (rcB b)))] st1 = _
      generalize rowD r = R1 at *
      generalize rowD o = R2 at *
      generalize rcD (rcB (bxs r)[i]) = C1 at *
      generalize rcD (rcB b) = C2 at *
      simp -implicitDefEqProofs [eg]⟩)
    rw [List.nil_append, show (bxs o).map (fun b => PyData.int (gapI (rcB (bxs r)[i]) (rcB b))) = ((bxs o).map fun b => gapI (rcB (bxs r)[i]) (rcB b)).map .int from by rw [List.map_map]; rfl] at c1
    have lt := flat_len (fun a => (bxs o).map fun b => gapI (rcB a) (rcB b)) 72 ((bxs r).take i) fun a _ => by rw [List.length_map]; exact l2
    rw [List.length_take] at lt
    have ex := extW_l (ys := ((bxs o).map fun b => gapI (rcB (bxs r)[i]) (rcB b)).map .int) g1 (by rw [List.length_map, List.length_map, List.length_map]; omega)
    rw [← List.map_append, show (((bxs r).take i).flatMap fun a => (bxs o).map fun b => gapI (rcB a) (rcB b)) ++ ((bxs o).map fun b => gapI (rcB (bxs r)[i]) (rcB b)) = ((bxs r).take (i + 1)).flatMap fun a => (bxs o).map fun b => gapI (rcB a) (rcB b) from by
      rw [List.take_add_one, List.getElem?_eq_getElem hi, List.flatMap_append]; simp, show st1.set st.length (.lst ((((bxs r).take (i + 1)).flatMap fun a => (bxs o).map fun b => gapI (rcB a) (rcB b)).map .int)) = st ++ [.lst ((((bxs r).take (i + 1)).flatMap fun a => (bxs o).map fun b => gapI (rcB a) (rcB b)).map .int)] from by rw [← hst]; simp] at ex
    have il := isLst_l g1
    have l3 : ((bxs o).map rcb).length ≤ 1000000 := by rw [List.length_map]; omega
    have l4 : (((bxs o).map fun b => gapI (rcB (bxs r)[i]) (rcB b)).map PyData.int).length ≤ 1000000 := by simp; omega
    generalize ((((bxs r).take (i + 1)).flatMap fun a => (bxs o).map fun b => gapI (rcB a) (rcB b)).map PyData.int) = F2 at *
    generalize ((bxs o).map fun b => gapI (rcB (bxs r)[i]) (rcB b)).map PyData.int = Y1 at *
    generalize (bxs o).map rcb = Y2 at *
    generalize rcb (bxs r)[i] = C1 at *
    generalize rowD r = R1 at *
    generalize rowD o = R2 at *
    unfold d_apart_l1
    simp -implicitDefEqProofs [e4, srcW_dl, l3, c1, l4, il, ex, wipeE])
  rw [List.length_map, List.take_length, show (bxs r).flatMap (fun a => (bxs o).map fun b => gapI (rcB a) (rcB b)) = gaps r o from rfl] at lp
  have z0 : (((bxs r).take 0).flatMap fun a => (bxs o).map fun b => gapI (rcB a) (rcB b)).map PyData.int = [] := rfl
  rw [z0] at lp
  have mi := min_is hm hl
  have g1 : (st ++ [Ob.lst ((gaps r o).map PyData.int)])[st.length]? = some (.lst ((gaps r o).map .int)) := by simp
  have lk := look_l g1
  have lk1 := fun f => look1_l g1 f
  have l3 : ((bxs r).map rcb).length ≤ 1000000 := by rw [List.length_map]; omega
  have tk : (st ++ [Ob.lst ((gaps r o).map PyData.int)]).take st.length = st := by simp
  generalize (gaps r o).map PyData.int = GG at *
  generalize (bxs r).map rcb = Y2 at *
  generalize rowD r = R1 at *
  generalize rowD o = R2 at *
  unfold m_apart d_apart
  simp -implicitDefEqProofs [e1, e2, newW, e3, srcW_dl, l3, lp, lk, lk1, looks, mi, tk, -forL_cons]
/-! ## the first stone at a square -/
def at1 (x y : Int) (p : Nb) : Option Rt := if hold (rcB p.2.2) x y = true then some (.w (.d (.tuple [.int p.1, .int p.2.1]))) else none
def atR (rs : List Row) (x y : Int) : Option Rt := (allB rs).findSome? (at1 x y)
theorem r_holds (b : Rc) (x y : Int) (st : Sto) : m_holds_square [.d (rcD b), .d (.int x), .d (.int y)] st = .ok (.d (.bool (hold b x y))) st := by
  unfold m_holds_square d_holds_square rcD hold
  by_cases h1 : b.1 ≤ x
  · by_cases h2 : x < b.2.2.1
    · by_cases h3 : b.2.1 ≤ y <;> simp -implicitDefEqProofs [h1, h2, h3]
    · simp -implicitDefEqProofs [h1, h2]
  · simp -implicitDefEqProofs [h1]
section
variable {rs : List Row} (hn : rs.length ≤ 6) (ok : ∀ r ∈ rs, RwOk r)
include hn ok
theorem r_at_square {x y : Int} {v : PyData} (hv : atR rs x y = some (.w (.d v))) (st : Sto) : m_at_square [.d (rowsD rs), (.d (.int (x))), (.d (.int (y)))] st = .ok (.d v) st := by
  have e1 := fun st => r_need_rows hn ok st
  have e2 := fun st => r_all_stones hn ok st
  have la : (allB rs).length ≤ 500 := by have := allN_len ok rs.length; show (allN rs rs.length).length ≤ 500; omega
  have w : ∀ z : Int, isWhole (.int z) = true := fun _ => rfl
  have e3 : ∀ st, m_need_square [(.d (.int (x))), (.d (.int (y)))] st = .ok (.d .none) st := fun st => by
    unfold m_need_square d_need_square
    simp -implicitDefEqProofs [r_is_whole, w]
  have lp := forL_seek (g := gTp (gCn (gN 3) (gCn (gN 4) (gCn (gN 5) gNl)))) (b := d_at_by_l1) (env := [some (.d (rowsD rs)), some (.d (.int (x))), some (.d (.int (y))), none, none, none]) (st := st) (eN rcb) (at1 x y) (allB rs) (fun p _ => by
    refine ⟨_, rfl, ?_⟩
    show d_at_by_l1 [some (.d (rowsD rs)), some (.d (.int (x))), some (.d (.int (y))), some (.d (.int ((p.1 : Int)))), some (.d (.int ((p.2.1 : Int)))), some (.d (rcD (rcB p.2.2)))] st = _
    have eh := fun st => r_holds (rcB p.2.2) x y st
    unfold at1
    generalize rcD (rcB p.2.2) = C1 at *
    generalize rowsD rs = RR at *
    unfold d_at_by_l1
    cases q : hold (rcB p.2.2) x y <;> simp only [q] at eh <;> simp -implicitDefEqProofs [eh, tupW, wipeE])
  rw [show (allB rs).findSome? (at1 x y) = atR rs x y from rfl, hv] at lp
  have lA : ((allB rs).map (eN rcb)).length ≤ 1000000 := by rw [List.length_map]; omega
  generalize (allB rs).map (eN rcb) = NN at *
  generalize rowsD rs = RR at *
  unfold m_at_square d_at_square m_at_by d_at_by
  simp -implicitDefEqProofs [e1, e3, e2, srcW_dl, lA, lp, -forL_cons]
end
end
section
variable [Tbl]
/-! ## the first two strips with a square in common -/
def covK (lg : Lgs) (x y W : Int) (a b : Nat) : Bool := covB (rc (wy lg a) (sx lg x W a) (sy lg y W a) W 0 (he lg W a)) (rc (wy lg b) (sx lg x W b) (sy lg y W b) W 0 (he lg W b))
def fc1 (lg : Lgs) (x y W : Int) (a b : Nat) : Option Rt := if covK lg x y W a b = true then some (.w (.d (.tuple [.int a, .int b]))) else none
def fc2 (lg : Lgs) (x y W : Int) (a : Nat) : Option Rt := (List.range (lg.length - (a + 1))).findSome? fun i => fc1 lg x y W a (a + 1 + i)
def fcR (lg : Lgs) (x y W : Int) : Option Rt := (List.range lg.length).findSome? (fc2 lg x y W)
def fcD (lg : Lgs) (x y W : Int) : PyData := match fcR lg x y W with
  | some (.w (.d p)) => p
  | _ => .none
theorem fc_is (lg : Lgs) (x y W : Int) : fcR lg x y W = none ∨ ∃ a b : Nat, fcR lg x y W = some (.w (.d (.tuple [.int a, .int b]))) := by
  cases e : fcR lg x y W with
  | none => exact .inl rfl
  | some r =>
    unfold fcR at e
    obtain ⟨a, _, e⟩ := List.exists_of_findSome?_eq_some e
    unfold fc2 at e
    obtain ⟨i, _, e⟩ := List.exists_of_findSome?_eq_some e
    unfold fc1 at e
    split at e
    · cases e; exact .inr ⟨_, _, rfl⟩
    · cases e
theorem rangeD_cast (lo n : Nat) : rangeD (lo : Int) n = (List.range n).map fun i => PyData.int ((lo + i : Nat) : Int) := by
  unfold rangeD
  exact List.map_congr_left fun i _ => by rw [Int.natCast_add]
section
variable {x y : Int} {lg : Lgs} (P : Pt x y lg) {W : Int} (hW : 1 ≤ W ∧ W ≤ 9) (ok : ∀ k, k < lg.length → 1 ≤ he lg W k)
include P hW ok
theorem r_first_cover (st : Sto) : m_first_cover [.d (ptD x y lg), (.d (.int (W)))] st = .ok (.d (fcD lg x y W)) st := by
  have hn := P.n
  have e1 := fun st => r_need_path P st
  have e2 := fun st => r_need_width hW st
  have e3 := fun st => r_strips_by P hW ok st
  have e4 := lcL_mapE (g := gN 6) (c := eCall m_rectangle (aCons (eVar 6) (aCons (eVar 1) (aCons (eK (.int 0)) (aCons (eOp2 ixD (eVar 6) (eK (.int 3))) aNil))))) (env := [some (.d (ptD x y lg)), some (.d (.int (W))), none, none, none, none, none]) (st := st) (stD lg x y W) (fun k => rcD (rc (wy lg k) (sx lg x W k) (sy lg y W k) W 0 (he lg W k))) (List.range lg.length) [] (fun k hk => by
    have hk2 := List.mem_range.mp hk
    have er := fun st => r_rectangle (P.k hk2).1 (sx lg x W k) (sy lg y W k) (he lg W k) W 0 (he lg W k) st
    refine ⟨_, rfl, ?_⟩
    show (eCall m_rectangle (aCons (eVar 6) (aCons (eVar 1) (aCons (eK (.int 0)) (aCons (eOp2 ixD (eVar 6) (eK (.int 3))) aNil))))) [some (.d (ptD x y lg)), some (.d (.int (W))), none, none, none, none, some (.d (.tuple [.int (sx lg x W k), .int (sy lg y W k), .str (wayS (wy lg k)), .int (he lg W k)]))] st = _
    simp -implicitDefEqProofs [er])
  rw [List.nil_append] at e4
  have rgx : ∀ k, k < lg.length → atD ((List.range lg.length).map fun k => rcD (rc (wy lg k) (sx lg x W k) (sy lg y W k) W 0 (he lg W k))) (k : Int) = some (rcD (rc (wy lg k) (sx lg x W k) (sy lg y W k) W 0 (he lg W k))) := fun k hk => by
    rw [atD_nat, List.getElem?_map, List.getElem?_range hk]; rfl
  have rl : ((List.range lg.length).map fun k => rcD (rc (wy lg k) (sx lg x W k) (sy lg y W k) W 0 (he lg W k))).length = lg.length := by simp
  have sl : ((List.range lg.length).map (stD lg x y W)).length = lg.length := by simp
  generalize ((List.range lg.length).map fun k => rcD (rc (wy lg k) (sx lg x W k) (sy lg y W k) W 0 (he lg W k))) = RR at *
  generalize hSS : (List.range lg.length).map (stD lg x y W) = SS at *
  generalize ptD x y lg = PD at *
  have t1 : ∀ a b : Nat, a < lg.length → b < lg.length → d_first_cover_l1 [some (.d PD), some (.d (.int (W))), some (.d (.list RR)), some (.d (.int ((a : Int)))), some (.d (.int ((b : Int)))), none, none] st = seek (fc1 lg x y W a b) [some (.d PD), some (.d (.int (W))), some (.d (.list RR)), some (.d (.int ((a : Int)))), none, none, none] st := fun a b ha hb => by
    have g1 := rgx a ha
    have g2 := rgx b hb
    have cv := fun st => r_cover (rc (wy lg a) (sx lg x W a) (sy lg y W a) W 0 (he lg W a)) (rc (wy lg b) (sx lg x W b) (sy lg y W b) W 0 (he lg W b)) st
    unfold d_first_cover_l1 fc1 covK
    cases q : covB (rc (wy lg a) (sx lg x W a) (sy lg y W a) W 0 (he lg W a)) (rc (wy lg b) (sx lg x W b) (sy lg y W b) W 0 (he lg W b)) <;> simp only [q] at cv <;> simp -implicitDefEqProofs [g1, g2, cv, tupW]
  have t2 : ∀ a : Nat, a < lg.length → d_first_cover_l2 [some (.d PD), some (.d (.int (W))), some (.d (.list RR)), some (.d (.int ((a : Int)))), none, none, none] st = seek (fc2 lg x y W a) [some (.d PD), some (.d (.int (W))), some (.d (.list RR)), none, none, none, none] st := fun a ha => by
    have rg : rg2W [(.d (.int ((a : Int) + 1))), (.d (.int ((lg.length : Int))))] st = .ok ⟨(List.range (lg.length - (a + 1))).map (fun i => PyData.int ((a + 1 + i : Nat) : Int)), []⟩ st := by
      rw [← rangeD_cast]
      unfold rg2W
      simp [rg_ok (i := (a : Int) + 1) (by omega) (by omega), rg_ok (i := (lg.length : Int)) (by omega) (by omega)]
      rw [show (((lg.length : Int) - ((a : Int) + 1)).toNat) = lg.length - (a + 1) by omega]
    have lp := forL_seek (g := gN 4) (b := d_first_cover_l1) (env := [some (.d PD), some (.d (.int (W))), some (.d (.list RR)), some (.d (.int ((a : Int)))), none, none, none]) (st := st) (fun i : Nat => PyData.int ((a + 1 + i : Nat) : Int)) (fun i => fc1 lg x y W a (a + 1 + i)) (List.range (lg.length - (a + 1))) fun i hi => ⟨_, rfl, t1 a (a + 1 + i) ha (by have := List.mem_range.mp hi; omega)⟩
    rw [show ((List.range (lg.length - (a + 1))).findSome? fun i => fc1 lg x y W a (a + 1 + i)) = fc2 lg x y W a from rfl] at lp
    generalize (List.range (lg.length - (a + 1))).map (fun i => PyData.int ((a + 1 + i : Nat) : Int)) = LL at *
    unfold d_first_cover_l2
    simp -implicitDefEqProofs [rl, rg, lp, -forL_cons]
    cases fc2 lg x y W a <;> simp -implicitDefEqProofs
  have lp := forL_seek (g := gN 3) (b := d_first_cover_l2) (env := [some (.d PD), some (.d (.int (W))), some (.d (.list RR)), none, none, none, none]) (st := st) (fun i : Nat => PyData.int ((0 + i : Nat) : Int)) (fc2 lg x y W) (List.range lg.length) fun i hi => ⟨_, rfl, by rw [Nat.zero_add]; exact t2 i (List.mem_range.mp hi)⟩
  rw [show ((List.range lg.length).findSome? (fc2 lg x y W)) = fcR lg x y W from rfl, ← rangeD_cast] at lp
  have rg := rg1_ok (i := (lg.length : Int)) st (by omega) (by omega)
  rw [show ((lg.length : Int).toNat) = lg.length by omega] at rg
  have sl2 : SS.length ≤ 1000000 := by omega
  have c0 : ((0 : Nat) : Int) = 0 := rfl
  rw [c0] at lp
  unfold m_first_cover d_first_cover fcD
  rcases fc_is lg x y W with q | ⟨a, b, q⟩
  · rw [q] at lp ⊢
    simp -implicitDefEqProofs [e1, e2, e3, srcW_dl, sl2, wipeE, e4, rl, rg, lp, -forL_cons]
  · rw [q] at lp ⊢
    simp -implicitDefEqProofs [e1, e2, e3, srcW_dl, sl2, wipeE, e4, rl, rg, lp, -forL_cons]
end
end
section
variable [Tbl]
/-! ## whether stones are a laying of their strip -/
def lgo (a b : Int) : Option Int → Sts → Option (Option Int)
  | e, [] => some e
  | none, q :: t => if 0 ≤ q.1 ∧ q.1 ≤ 0 then lgo a b (some (q.1 + q.2)) t else none
  | some e, q :: t => if e + a ≤ q.1 ∧ q.1 ≤ e + b then lgo a b (some (q.1 + q.2)) t else none
def lyB (a b L : Int) (t : Sts) : Bool := match lgo a b none t with
  | some (some z) => z == L
  | _ => false
def lgR (env : Option Int → En) (st : Sto) : Option (Option Int) → SR
  | some e => .nx (env e) st
  | none => .rt (.w (.d (.bool false))) st
theorem lgo_run (ls L th : PyData) (a b : Int) (st : Sto) : ∀ (t : Sts) (e : Option Int), forL (gTp (gCn (gN 5) (gCn (gN 6) gNl))) d_is_laid_l1 [] (t.map c2) [some (.d ls), some (.d L), some (.d (.tuple [.int a, .int b])), some (.d th), some (.d (eD' e)), none, none] st = lgR (fun e => [some (.d ls), some (.d L), some (.d (.tuple [.int a, .int b])), some (.d th), some (.d (eD' e)), none, none]) st (lgo a b e t)
  | [], e => by
    cases e <;> simp [forL, lgo, lgR]
  | q :: t, e => by
    have ih := lgo_run ls L th a b st t (some (q.1 + q.2))
    have g1 : gTp (gCn (gN 5) (gCn (gN 6) gNl)) (.d (c2 q)) [some (.d ls), some (.d L), some (.d (.tuple [.int a, .int b])), some (.d th), some (.d (eD' e)), none, none] = some [some (.d ls), some (.d L), some (.d (.tuple [.int a, .int b])), some (.d th), some (.d (eD' e)), some (.d (.int (q.1))), some (.d (.int (q.2)))] := rfl
    rw [List.map_cons, forL_cons, g1]
    dsimp only
    cases e with
    | none =>
      have f : isFT (.int q.1) 0 0 = (decide (0 ≤ q.1) && decide (q.1 ≤ 0)) := rfl
      unfold lgo
      by_cases h : 0 ≤ q.1 ∧ q.1 ≤ 0
      · rw [if_pos h]
        have f2 : isFT (.int q.1) 0 0 = true := by rw [f, decide_eq_true h.1, decide_eq_true h.2]; rfl
        have tn : d_is_laid_l1 [some (.d ls), some (.d L), some (.d (.tuple [.int a, .int b])), some (.d th), some (.d (eD' none)), some (.d (.int (q.1))), some (.d (.int (q.2)))] st = .nx [some (.d ls), some (.d L), some (.d (.tuple [.int a, .int b])), some (.d th), some (.d (eD' (some (q.1 + q.2)))), none, none] st := by
          unfold d_is_laid_l1
          simp -implicitDefEqProofs [eD', r_is_from_to, f2, wipeE]
        rw [tn, SR.seq_nx, ih]
      · rw [if_neg h]
        have f2 : isFT (.int q.1) 0 0 = false := by rw [f]; by_cases h1 : 0 ≤ q.1 <;> simp [h1] at h ⊢; omega
        have tn : d_is_laid_l1 [some (.d ls), some (.d L), some (.d (.tuple [.int a, .int b])), some (.d th), some (.d (eD' none)), some (.d (.int (q.1))), some (.d (.int (q.2)))] st = .rt (.w (.d (.bool false))) st := by
          unfold d_is_laid_l1
          simp -implicitDefEqProofs [eD', r_is_from_to, f2, wipeE]
        rw [tn]
        rfl
    | some z =>
      have f : isFT (.int q.1) (z + a) (z + b) = (decide (z + a ≤ q.1) && decide (q.1 ≤ z + b)) := rfl
      have zn : isND (.int z) .none = some (.bool false) := rfl
      unfold lgo
      by_cases h : z + a ≤ q.1 ∧ q.1 ≤ z + b
      · rw [if_pos h]
        have f2 : isFT (.int q.1) (z + a) (z + b) = true := by rw [f, decide_eq_true h.1, decide_eq_true h.2]; rfl
        have tn : d_is_laid_l1 [some (.d ls), some (.d L), some (.d (.tuple [.int a, .int b])), some (.d th), some (.d (eD' (some z))), some (.d (.int (q.1))), some (.d (.int (q.2)))] st = .nx [some (.d ls), some (.d L), some (.d (.tuple [.int a, .int b])), some (.d th), some (.d (eD' (some (q.1 + q.2)))), none, none] st := by
          unfold d_is_laid_l1
          simp -implicitDefEqProofs [eD', zn, r_is_from_to, f2, wipeE]
        rw [tn, SR.seq_nx, ih]
      · rw [if_neg h]
        have f2 : isFT (.int q.1) (z + a) (z + b) = false := by rw [f]; by_cases h1 : z + a ≤ q.1 <;> simp [h1] at h ⊢; omega
        have tn : d_is_laid_l1 [some (.d ls), some (.d L), some (.d (.tuple [.int a, .int b])), some (.d th), some (.d (eD' (some z))), some (.d (.int (q.1))), some (.d (.int (q.2)))] st = .rt (.w (.d (.bool false))) st := by
          unfold d_is_laid_l1
          simp -implicitDefEqProofs [eD', zn, r_is_from_to, f2, wipeE]
        rw [tn]
        rfl
/-- the longs, the starts -/
def lgsD (t : Sts) : PyData := .tuple ((t.map fun q => q.2).map .int)
def strD (t : Sts) : PyData := .tuple ((t.map fun q => q.1).map .int)
theorem r_are_longs {ls : List Int} (hn : 1 ≤ ls.length ∧ ls.length ≤ 12) (h : ∀ l ∈ ls, 1 ≤ l ∧ l ≤ 20) (st : Sto) : m_are_longs [.d (.tuple (ls.map .int))] st = .ok (.d (.bool true)) st := by
  have e1 := lcL_mapE (g := gN 2) (c := eCall m_is_from_to (aCons (eVar 2) (aCons (eK (.int 1)) (aCons (eK w_MOST_STONE) aNil)))) (env := [some (.d (.tuple (ls.map .int))), none, none]) (st := st) PyData.int (fun _ => .bool true) ls [] (fun l hl => ⟨_, rfl, by
    have q := h l hl
    have f : isFT (.int l) 1 20 = true := by simp [isFT, q.1, q.2]
    show (eCall m_is_from_to (aCons (eVar 2) (aCons (eK (.int 1)) (aCons (eK w_MOST_STONE) aNil)))) [some (.d (.tuple (ls.map .int))), none, some (.d (.int (l)))] st = _
    generalize ls.map PyData.int = LL at *
    simp -implicitDefEqProofs [r_is_from_to, w_MOST_STONE, f]⟩)
  rw [List.nil_append, show ls.map (fun _ => PyData.bool true) = (ls.map fun _ => true).map .bool from by rw [List.map_map]; rfl] at e1
  have l1 : (ls.map PyData.int).length = ls.length := List.length_map ..
  have al : allF [.list ((ls.map fun _ => true).map .bool)] = some (.bool true) := by
    rw [o_all]
    simp
  have a1 : (1 : Int) ≤ (ls.length : Int) := by omega
  have a2 : (ls.length : Int) ≤ 12 := by omega
  have a3 : ls.length ≤ 1000000 := by omega
  generalize (ls.map fun _ => true).map PyData.bool = BB at *
  generalize ls.map PyData.int = LL at *
  rw [← l1] at a1 a2 a3
  unfold m_are_longs d_are_longs
  simp -implicitDefEqProofs [w_MOST_STONES, a1, a2, a3, srcW_dt, e1, al]
theorem r_is_laying {a b L : Int} (J : 0 ≤ a ∧ a ≤ b ∧ b ≤ 9) (hL : 1 ≤ L ∧ L ≤ 80) {t : Sts} (hn : 1 ≤ t.length ∧ t.length ≤ 12) (S : SOk L 0 t) (st : Sto) : m_is_laying [.d (lgsD t), (.d (.int (L))), .d (.tuple [.int a, .int b]), .d (strD t)] st = .ok (.d (.bool (lyB a b L t))) st := by
  have e1 := fun st => r_are_longs (ls := t.map fun q => q.2) (by rw [List.length_map]; exact hn) (fun l hl => by
    obtain ⟨q, hq, rfl⟩ := List.mem_map.mp hl
    have := S.at' (by decide) q hq
    omega) st
  have e3 := fun st => r_need_joints J st
  have f1 : isFT (.int L) 1 80 = true := by simp [isFT, hL.1, hL.2]
  have lp := lgo_run (lgsD t) (.int L) (strD t) a b st t none
  have zp : ∀ st, zip2W [.d (strD t), .d (lgsD t)] st = .ok ⟨t.map c2, []⟩ st := fun st => by
    show Rs.ok (Sc.mk (List.zipWith pairD ((t.map fun q => q.1).map .int) ((t.map fun q => q.2).map .int)) ([] ++ [])) st = _
    rw [List.zipWith_map, List.zipWith_map, List.zipWith_self]
    rfl
  have tu : (isaD "tuple") (strD t) = some (.bool true) := rfl
  have n1 : lenF [strD t] = some (.int (t.length : Nat)) := by unfold strD; simp
  have n2 : lenF [lgsD t] = some (.int (t.length : Nat)) := by unfold lgsD; simp
  have e1 : ∀ st, m_are_longs [.d (lgsD t)] st = .ok (.d (.bool true)) st := e1
  have l1 : (t.map c2).length ≤ 1000000 := by rw [List.length_map]; omega
  unfold lyB
  generalize lgsD t = D1 at *
  generalize strD t = D2 at *
  generalize t.map c2 = TT at *
  have lp : forL (gTp (gCn (gN 5) (gCn (gN 6) gNl))) d_is_laid_l1 [] TT [some (.d D1), some (.d (.int (L))), some (.d (.tuple [.int a, .int b])), some (.d D2), some (.d .none), none, none] st = _ := lp
  unfold m_is_laying d_is_laying m_need_all d_need_all m_need_longs d_need_longs m_need_span d_need_span m_is_span d_is_span m_is_laid d_is_laid
  cases h : lgo a b none t with
  | none =>
    rw [h] at lp
    simp -implicitDefEqProofs [e1, e3, r_is_from_to, w_MOST_SPAN, f1, tu, n1, n2, zp, l1, lp, lgR, -forL_cons]
  | some e =>
    rw [h] at lp
    cases e with
    | none =>
      have zz : eqD .none (.int L) = some (.bool false) := rfl
      simp -implicitDefEqProofs [e1, e3, r_is_from_to, w_MOST_SPAN, f1, tu, n1, n2, zp, l1, lp, lgR, eD', zz, -forL_cons]
    | some z => simp -implicitDefEqProofs [e1, e3, r_is_from_to, w_MOST_SPAN, f1, tu, n1, n2, zp, l1, lp, lgR, eD', -forL_cons]
end
section
variable [Tbl]
/-! ## one row (plain) -/
/-! ### layings and joints -/
theorem sa_cons (q : Int × Int) (t : Sts) (k : Nat) : sa (q :: t) (k + 1) = sa t k ∧ sl (q :: t) (k + 1) = sl t k := ⟨by simp [sa], by simp [sl]⟩
theorem peE_cons (e : Int) (q : Int × Int) (t : Sts) (k : Nat) : peE e (q :: t) (k + 1) = peE (q.1 + q.2) t k := by
  cases k with
  | zero => simp [peE, sa, sl]
  | succ j => simp [peE, sa, sl]
theorem lgo_all (a b : Int) : ∀ (t : Sts) (e : Int), lgo a b (some e) t = if (∀ k, k < t.length → a ≤ sa t k - peE e t k ∧ sa t k - peE e t k ≤ b) then some (some (peE e t t.length)) else none
  | [], e => by
    have h : ∀ k, k < ([] : Sts).length → a ≤ sa [] k - peE e [] k ∧ sa [] k - peE e [] k ≤ b := fun k hk => absurd hk (Nat.not_lt_zero k)
    rw [if_pos h]
    rfl
  | q :: t, e => by
    have ih := lgo_all a b t (q.1 + q.2)
    have s0 : sa (q :: t) 0 = q.1 := rfl
    have p0 : peE e (q :: t) 0 = e := rfl
    unfold lgo
    by_cases h : e + a ≤ q.1 ∧ q.1 ≤ e + b
    · rw [if_pos h, ih]
      by_cases h2 : ∀ k, k < t.length → a ≤ sa t k - peE (q.1 + q.2) t k ∧ sa t k - peE (q.1 + q.2) t k ≤ b
      · have h4 : ∀ k, k < (q :: t).length → a ≤ sa (q :: t) k - peE e (q :: t) k ∧ sa (q :: t) k - peE e (q :: t) k ≤ b := fun k hk => by
          cases k with
          | zero => rw [s0, p0]; omega
          | succ j => rw [(sa_cons q t j).1, peE_cons]; exact h2 j (by simpa using hk)
        rw [if_pos h2, if_pos h4, List.length_cons, peE_cons]
      · have h4 : ¬ ∀ k, k < (q :: t).length → a ≤ sa (q :: t) k - peE e (q :: t) k ∧ sa (q :: t) k - peE e (q :: t) k ≤ b := fun h3 => h2 fun k hk => by
          have := h3 (k + 1) (by simpa using hk)
          rw [(sa_cons q t k).1, peE_cons] at this
          exact this
        rw [if_neg h2, if_neg h4]
    · have h4 : ¬ ∀ k, k < (q :: t).length → a ≤ sa (q :: t) k - peE e (q :: t) k ∧ sa (q :: t) k - peE e (q :: t) k ≤ b := fun h3 => h (by
        have := h3 0 (by simp)
        rw [s0, p0] at this
        omega)
      rw [if_neg h, if_neg h4]
theorem ly_am {a b L : Int} {t : Sts} (hn : 1 ≤ t.length) (S : SOk L 0 t) : lyB a b L t = decide (amR a b t L = none) := by
  have key : lyB a b L t = true ↔ amR a b t L = none := by
    cases t with
    | nil => simp at hn
    | cons q t =>
      have s0 := (st_k S (k := 0) (by simp)).1
      have e0 : sa (q :: t) 0 = q.1 := rfl
      have p0 : pe (q :: t) 0 = 0 := rfl
      rw [e0, p0] at s0
      have am : amR a b (q :: t) L = none ↔ (∀ k, k < (q :: t).length → okJ a b (q :: t) k = true) ∧ pe (q :: t) (q :: t).length = L := by
        unfold amR
        cases h : (List.range (q :: t).length).find? (fun k => !okJ a b (q :: t) k) with
        | some k =>
          have h1 := List.mem_range.mp (List.mem_of_find?_eq_some h)
          have h2 := List.find?_some h
          constructor
          · intro z; cases z
          · intro z
            have := z.1 k h1
            rw [this] at h2
            cases h2
        | none =>
          have h2 := List.find?_eq_none.mp h
          dsimp only
          constructor
          · intro z
            split at z
            · rename_i e
              exact ⟨fun k hk => by simpa using h2 k (List.mem_range.mpr hk), e⟩
            · cases z
          · intro z; rw [if_pos z.2]
      rw [am]
      unfold lyB lgo
      have okk : ∀ j, okJ a b (q :: t) (j + 1) = true ↔ a ≤ sa t j - peE (q.1 + q.2) t j ∧ sa t j - peE (q.1 + q.2) t j ≤ b := fun j => by
        unfold okJ
        rw [if_neg (Nat.succ_ne_zero j)]
        unfold gp
        rw [(sa_cons q t j).1, ← peE_0, peE_cons]
        simp only [Bool.and_eq_true, decide_eq_true_eq]
      have pl : pe (q :: t) (q :: t).length = peE (q.1 + q.2) t t.length := by rw [List.length_cons, ← peE_0, peE_cons]
      have ok0 : okJ a b (q :: t) 0 = true ↔ q.1 ≤ 0 := by
        unfold okJ
        rw [if_pos rfl, e0, decide_eq_true_eq]
      by_cases h : 0 ≤ q.1 ∧ q.1 ≤ 0
      · rw [if_pos h, lgo_all]
        by_cases h2 : ∀ k, k < t.length → a ≤ sa t k - peE (q.1 + q.2) t k ∧ sa t k - peE (q.1 + q.2) t k ≤ b
        · rw [if_pos h2]
          dsimp only
          rw [beq_iff_eq, pl]
          constructor
          · intro z
            refine ⟨fun k hk => ?_, z⟩
            cases k with
            | zero => exact ok0.mpr h.2
            | succ j => exact (okk j).mpr (h2 j (by simpa using hk))
          · exact fun z => z.2
        · rw [if_neg h2]
          constructor
          · intro z; cases z
          · intro z
            exact absurd (fun k hk => (okk k).mp (z.1 (k + 1) (by simpa using hk))) h2
      · rw [if_neg h]
        constructor
        · intro z; cases z
        · intro z
          have := ok0.mp (z.1 0 (by simp))
          omega
  by_cases h : amR a b t L = none
  · rw [decide_eq_true h]; exact key.mpr h
  · rw [decide_eq_false h]; exact Bool.eq_false_iff.mpr fun z => h (key.mp z)
/-- all strips are layings -/
def allLy (a b : Int) (r : Row) (n : Nat) : Bool := (List.range n).all fun k => lyB a b (he r.lg r.W k) (lay r k)
theorem allLy_succ (a b : Int) (r : Row) (n : Nat) : allLy a b r (n + 1) = (allLy a b r n && lyB a b (he r.lg r.W n) (lay r n)) := by unfold allLy; rw [List.range_succ, List.all_append]; simp
theorem inR_ly {r : Row} (R : RwOk r) (a b : Int) : (inR a b r = .none) ↔ allLy a b r r.lg.length = true := by
  have h1 : allLy a b r r.lg.length = true ↔ ∀ k, k < r.lg.length → amR a b (lay r k) (he r.lg r.W k) = none := by
    unfold allLy
    rw [List.all_eq_true]
    constructor
    · intro h k hk
      have := h k (List.mem_range.mpr hk)
      rw [ly_am (R.s k hk).1.1 (R.s k hk).2] at this
      exact of_decide_eq_true this
    · intro h k hk
      have hk := List.mem_range.mp hk
      rw [ly_am (R.s k hk).1.1 (R.s k hk).2]
      exact decide_eq_true (h k hk)
  rw [h1]
  unfold inR
  cases q : (List.range r.lg.length).findSome? (fun i => (amR a b (lay r i) (he r.lg r.W i)).map fun k => PyData.tuple [.int (i : Nat), .int (k : Nat)]) with
  | none =>
    rw [List.findSome?_eq_none_iff] at q
    refine ⟨fun _ k hk => ?_, fun _ => rfl⟩
    have := q k (List.mem_range.mpr hk)
    simpa using this
  | some d =>
    obtain ⟨i, hi, e⟩ := List.exists_of_findSome?_eq_some q
    constructor
    · intro z
      cases h : amR a b (lay r i) (he r.lg r.W i) with
      | none => rw [h] at e; cases e
      | some k => rw [h] at e; cases e; cases z
    · intro z
      rw [z i (List.mem_range.mp hi)] at e
      cases e
/-! ### stones of one row -/
theorem sok_pw {L : Int} : ∀ {t : Sts} {e : Int}, 0 ≤ e → SOk L e t → t.Pairwise fun q p => q.1 + q.2 ≤ p.1
  | [], _, _, _ => .nil
  | q :: t, e, h0, h => by
    obtain ⟨h1, h2, h3, h4, h5⟩ := h
    refine List.pairwise_cons.mpr ⟨fun p hp => ?_, sok_pw (by omega) h5⟩
    exact (h5.at' (by omega) p hp).1
theorem rc_along {w : Nat} (h : w < 4) {x y W s e s2 e2 : Int} (hs : e ≤ s2) : covB (rc w x y W s e) (rc w x y W s2 e2) = false := by
  refine Bool.eq_false_iff.mpr fun q => ?_
  unfold covB at q
  simp only [Bool.and_eq_true, decide_eq_true_eq] at q
  rcases w4 h with rfl | rfl | rfl | rfl <;> simp only [rc] at q <;> omega
theorem rc_sub {w v : Nat} (h : w < 4) (h2 : v < 4) {x y x2 y2 W V s e s2 e2 l l2 : Int} (a : 0 ≤ s ∧ e ≤ l) (b : 0 ≤ s2 ∧ e2 ≤ l2) (q : covB (rc w x y W s e) (rc v x2 y2 V s2 e2) = true) : covB (rc w x y W 0 l) (rc v x2 y2 V 0 l2) = true := by
  unfold covB at q ⊢
  simp only [Bool.and_eq_true, decide_eq_true_eq] at q ⊢
  rcases w4 h with rfl | rfl | rfl | rfl <;> rcases w4 h2 with rfl | rfl | rfl | rfl <;> simp only [rc] at q ⊢ <;> omega
theorem fcD_none {lg : Lgs} {x y W : Int} : fcD lg x y W = .none ↔ ∀ a b, a < b → b < lg.length → covK lg x y W a b = false := by
  have h : fcD lg x y W = .none ↔ fcR lg x y W = none := by
    rcases fc_is lg x y W with q | ⟨a, b, q⟩
    · unfold fcD; rw [q]; simp
    · unfold fcD; rw [q]; simp
  rw [h]
  unfold fcR
  rw [List.findSome?_eq_none_iff]
  constructor
  · intro z a b hab hb
    have := z a (List.mem_range.mpr (by omega))
    unfold fc2 at this
    rw [List.findSome?_eq_none_iff] at this
    have := this (b - (a + 1)) (List.mem_range.mpr (by omega))
    unfold fc1 at this
    rw [show a + 1 + (b - (a + 1)) = b by omega] at this
    split at this
    · cases this
    · rename_i q; exact Bool.eq_false_iff.mpr q
  · intro z a ha
    unfold fc2
    rw [List.findSome?_eq_none_iff]
    intro i hi
    have hi := List.mem_range.mp hi
    unfold fc1
    rw [if_neg (by rw [z a (a + 1 + i) (by omega) (by omega)]; exact Bool.false_ne_true)]
theorem apt_row {r : Row} (R : RwOk r) (h : fcD r.lg r.x r.y r.W = .none) : Apt ((bxs r).map rcB) := by
  have hc := fcD_none.mp h
  unfold Apt
  rw [List.pairwise_map]
  unfold bxs
  rw [List.pairwise_flatMap]
  refine ⟨fun k hk => ?_, ?_⟩
  · have hk := List.mem_range.mp hk
    unfold bxK
    rw [List.pairwise_map]
    refine (sok_pw (by decide) (R.s k hk).2).imp_of_mem fun {q p} hq hp le => ?_
    rw [← rcB_rk R hk hq, ← rcB_rk R hk hp]
    exact rc_along (R.P.k hk).1 le
  · refine List.Pairwise.imp_of_mem (R := fun a b => a < b) (fun {a b} ha hb lt x hx y hy => ?_) List.pairwise_lt_range
    have ha := List.mem_range.mp ha
    have hb := List.mem_range.mp hb
    obtain ⟨q, hq, rfl⟩ := List.mem_map.mp hx
    obtain ⟨p, hp, rfl⟩ := List.mem_map.mp hy
    refine Bool.eq_false_iff.mpr fun z => ?_
    rw [← rcB_rk R ha hq, ← rcB_rk R hb hp] at z
    have s1 := R.st ha hq
    have s2 := R.st hb hp
    have := rc_sub (R.P.k ha).1 (R.P.k hb).1 (l := he r.lg r.W a) (l2 := he r.lg r.W b) ⟨s1.1, s1.2.2.2⟩ ⟨s2.1, s2.2.2.2⟩ z
    have c := hc a b lt hb
    unfold covK at c
    rw [c] at this
    cases this
theorem recs_one (r : Row) : recs [r] = (bxs r).map rcB := by rw [recs_flat]; simp
end
section
variable [Tbl]
/-! ## one row: the law's look -/
theorem ne_rcD (q : Rc) : neD (rcD q) (rcD q) = some (.bool false) := by
  unfold neD rcD
  rw [if_pos (by unfold cmpOk; simp [PyData.plain, PyData.plainAll, PyData.depth, PyData.depthAll])]
  simp [PyData.eqv, PyData.eqvAll]
def bse (r : Row) (k : Nat) : Nat := ((List.range k).flatMap (bxK r)).length
theorem bse_succ (r : Row) (k : Nat) : bse r (k + 1) = bse r k + (lay r k).length := by
  unfold bse
  rw [List.range_succ, List.flatMap_append, List.length_append]
  simp [bxK]
theorem bxs_at {r : Row} {k j : Nat} (hk : k < r.lg.length) (hj : j < (lay r k).length) : (bxs r)[bse r k + j]? = some (bx r k (lay r k)[j]) := by
  unfold bxs bse
  obtain ⟨m, hm⟩ : ∃ m, r.lg.length = k + (m + 1) := ⟨r.lg.length - k - 1, by omega⟩
  rw [hm, List.range_add, List.flatMap_append, List.getElem?_append_right (by omega), Nat.add_sub_cancel_left, List.range_succ_eq_map, List.map_cons, List.flatMap_cons, Nat.add_zero]
  rw [List.getElem?_append_left (by unfold bxK; rw [List.length_map]; exact hj)]
  unfold bxK
  rw [List.getElem?_map, List.getElem?_eq_getElem hj]
  rfl
theorem rc_wide {w : Nat} (h : w < 4) {x y W s e : Int} (hW : 0 < W ∧ W ≤ 9) (hs : 0 ≤ e - s ∧ e - s ≤ 100) : ((rc w x y W s e).2.2.1 - (rc w x y W s e).1).natAbs < 1000000 := by
  rcases w4 h with rfl | rfl | rfl | rfl <;> simp only [rc] <;> omega
theorem rA_rc {w : Nat} (h : w < 4) (x y W s e : Int) : rA (rc w x y W s e) = W * (e - s) := by
  rcases w4 h with rfl | rfl | rfl | rfl <;> simp only [rc, rA]
  · rw [show x + e - (x + s) = e - s by omega, show y + W - y = W by omega]; exact Int.mul_comm _ _
  · rw [show x - (x - W) = W by omega, show y + e - (y + s) = e - s by omega]
  · rw [show x - s - (x - e) = e - s by omega, show y - (y - W) = W by omega]; exact Int.mul_comm _ _
  · rw [show x + W - x = W by omega, show y - s - (y - e) = e - s by omega]
def hls (r : Row) (k j : Nat) : Int := r.W * (((lay r k).take j).map fun q => q.2).sum
theorem hls_succ {r : Row} {k j : Nat} (hj : j < (lay r k).length) : hls r k (j + 1) = hls r k j + r.W * (lay r k)[j].2 := by
  unfold hls
  rw [List.take_add_one, List.getElem?_eq_getElem hj, List.map_append, List.sum_append, Int.mul_add]
  simp
theorem he_b {r : Row} (R : RwOk r) {k : Nat} (hk : k < r.lg.length) : he r.lg r.W k ≤ 78 := by
  have kk := R.P.k hk
  have a := ah_b (lg := r.lg) R.w k
  have m : 0 ≤ mo r.lg r.W k ∧ mo r.lg r.W k ≤ 9 := by have := R.w; unfold mo; split <;> (try split) <;> omega
  unfold he
  omega
section
variable {r : Row} (R : RwOk r) {a b : Int} (J : 0 ≤ a ∧ a ≤ b ∧ b ≤ 9)
def oE (r : Row) (a b : Int) (at' : Int) (x8 x9 x10 x11 x14 : Option Wv) : En := [some (.d (rowD r)), some (.d (.tuple [.int a, .int b])), some (.d (ptD r.x r.y r.lg)), some (.d (.int (r.W))), some (.d (.tuple (r.laid.map stsD))), some (.d (.list ((List.range r.lg.length).map (stD r.lg r.x r.y r.W)))), some (.d (.list ((bxs r).map rcb))), some (.d (.int (at'))), x8, x9, x10, x11, none, none, x14, none, none, none, none, none]
include R
theorem o_stones {k : Nat} (hk : k < r.lg.length) (x10 : Option Wv) (st : Sto) : forL (gTp (gCn (gN 12) (gCn (gN 13) gNl))) d__law_one_right_l1 [] ((lay r k).map c2) (oE r a b (bse r k) (some (.d (.int ((k : Int))))) (some (.d (stsD (lay r k)))) x10 (some (.d (.int (0)))) none) st =
    .nx (oE r a b (bse r (k + 1)) (some (.d (.int ((k : Int))))) (some (.d (stsD (lay r k)))) x10 (some (.d (.int (hls r k (lay r k).length)))) none) st := by
  have lp := forL_at (g := gTp (gCn (gN 12) (gCn (gN 13) gNl))) (b := d__law_one_right_l1) (fun j => oE r a b ((bse r k + j : Nat) : Int) (some (.d (.int ((k : Int))))) (some (.d (stsD (lay r k)))) x10 (some (.d (.int (hls r k j)))) none) (fun _ => st) ((lay r k).map c2) (fun j x hx => by
    have hj : j < (lay r k).length := by have := (List.getElem?_eq_some_iff.mp hx).1; rwa [List.length_map] at this
    rw [List.getElem?_map, List.getElem?_eq_getElem hj] at hx
    cases hx
    have hq : (lay r k)[j] ∈ lay r k := List.getElem_mem hj
    have s := R.st hk hq
    have w := R.w
    have h78 := he_b R hk
    refine ⟨_, rfl, ?_⟩
    have ix : atD ((bxs r).map rcb) ((bse r k + j : Nat) : Int) = some (rcb (bx r k (lay r k)[j])) := by rw [atD_nat, List.getElem?_map, bxs_at hk hj]; rfl
    have er := fun st => r_rect_of R hk (s := (lay r k)[j].1) (e := (lay r k)[j].1 + (lay r k)[j].2) ⟨s.1, by omega, s.2.2.2⟩ st
    rw [rcB_rk R hk hq] at er
    have er : ∀ st, m_rect_of [.d (ptD r.x r.y r.lg), (.d (.int (r.W))), (.d (.int ((k : Int)))), (.d (.int ((lay r k)[j].1))), (.d (.int ((lay r k)[j].1 + (lay r k)[j].2)))] st = .ok (.d (rcb (bx r k (lay r k)[j]))) st := er
    have ne : neD (rcb (bx r k (lay r k)[j])) (rcb (bx r k (lay r k)[j])) = some (.bool false) := by
      exact ne_rcD _
    have ea := fun st => r_law_area (b := rcB (bx r k (lay r k)[j])) (by rw [← rcB_rk R hk hq]; exact rc_wide (R.P.k hk).1 ⟨by omega, w.2⟩ (by omega)) st
    rw [← rcB_rk R hk hq, rA_rc (R.P.k hk).1, show (lay r k)[j].1 + (lay r k)[j].2 - (lay r k)[j].1 = (lay r k)[j].2 by omega, rcB_rk R hk hq] at ea
    have ea : ∀ st, m__law_area [.d (rcb (bx r k (lay r k)[j]))] st = .ok (.d (.int (r.W * (lay r k)[j].2))) st := ea
    rw [hls_succ hj, show ((bse r k + (j + 1) : Nat) : Int) = ((bse r k + j : Nat) : Int) + 1 by omega]
    show d__law_one_right_l1 [some (.d (rowD r)), some (.d (.tuple [.int a, .int b])), some (.d (ptD r.x r.y r.lg)), some (.d (.int (r.W))), some (.d (.tuple (r.laid.map stsD))), some (.d (.list ((List.range r.lg.length).map (stD r.lg r.x r.y r.W)))), some (.d (.list ((bxs r).map rcb))), some (.d (.int (((bse r k + j : Nat) : Int)))), some (.d (.int ((k : Int)))), some (.d (stsD (lay r k))), x10, some (.d (.int (hls r k j))), some (.d (.int ((lay r k)[j].1))), some (.d (.int ((lay r k)[j].2))), none, none, none, none, none, none] st = _
    unfold oE
    generalize ((bse r k + j : Nat) : Int) = B1 at *
    generalize rcb (bx r k (lay r k)[j]) = RC at *
    generalize (bxs r).map rcb = RR at *
    generalize (List.range r.lg.length).map (stD r.lg r.x r.y r.W) = SS at *
    generalize PyData.tuple (r.laid.map stsD) = LD at *
    generalize ptD r.x r.y r.lg = PD at *
    generalize rowD r = RD at *
    generalize stsD (lay r k) = TD at *
    unfold d__law_one_right_l1
    simp -implicitDefEqProofs [ix, er, ne, ea, wipeE])
  rw [List.length_map, ← bse_succ, Nat.add_zero] at lp
  have z : hls r k 0 = 0 := by unfold hls; simp
  rw [z] at lp
  exact lp
theorem o_strip {k : Nat} (hk : k < r.lg.length) (st : Sto) : d__law_one_right_l2 (oE r a b (bse r k) (some (.d (.int ((k : Int))))) (some (.d (stsD (lay r k)))) none none none) st = .nx (oE r a b (bse r (k + 1)) none none none none none) st := by
  have w := R.w
  have h78 := he_b R hk
  have h1 := R.ok k hk
  have e5 : ixD (.list ((List.range r.lg.length).map (stD r.lg r.x r.y r.W))) (.int (k : Int)) = some (stD r.lg r.x r.y r.W k) := by
    show atD _ (k : Int) = _
    rw [atD_nat, List.getElem?_map, List.getElem?_range hk]; rfl
  have e6 : ixD (stD r.lg r.x r.y r.W k) (.int 3) = some (.int (he r.lg r.W k)) := rfl
  have er := fun st => r_rect_of R hk (s := 0) (e := he r.lg r.W k) ⟨by decide, by omega, Int.le_refl _⟩ st
  have ea := fun st => r_law_area (b := rc (wy r.lg k) (sx r.lg r.x r.W k) (sy r.lg r.y r.W k) r.W 0 (he r.lg r.W k)) (rc_wide (R.P.k hk).1 ⟨by omega, w.2⟩ (by omega)) st
  rw [rA_rc (R.P.k hk).1, Int.sub_zero] at ea
  have lp := o_stones (a := a) (b := b) R hk (some (.d (.int (r.W * he r.lg r.W k)))) st
  have ej := fun st => r_joints_of R st
  have ix : atD ((List.range r.lg.length).map fun k => PyData.int (jnK r k)) (k : Int) = some (.int (jnK r k)) := by rw [atD_nat, List.getElem?_map, List.getElem?_range hk]; rfl
  have eq : jnK r k = r.W * he r.lg r.W k - hls r k (lay r k).length := by
    unfold jnK hls
    rw [List.take_length, Int.mul_sub]
  have l1 : ((lay r k).map c2).length ≤ 1000000 := by rw [List.length_map]; have := (R.s k hk).1.2; omega
  have es : ∀ st, srcW (.d (stsD (lay r k))) st = .ok ⟨(lay r k).map c2, []⟩ st := fun _ => rfl
  unfold oE at *
  generalize rcD (rc (wy r.lg k) (sx r.lg r.x r.W k) (sy r.lg r.y r.W k) r.W 0 (he r.lg r.W k)) = RC at *
  generalize (List.range r.lg.length).map (fun k => PyData.int (jnK r k)) = JJ at *
  generalize (lay r k).map c2 = TT at *
  generalize (bxs r).map rcb = RR at *
  generalize stD r.lg r.x r.y r.W k = SD at *
  generalize (List.range r.lg.length).map (stD r.lg r.x r.y r.W) = SS at *
  generalize PyData.tuple (r.laid.map stsD) = LD at *
  generalize ptD r.x r.y r.lg = PD at *
  generalize rowD r = RD at *
  generalize stsD (lay r k) = TD at *
  unfold d__law_one_right_l2
  simp -implicitDefEqProofs [e5, e6, er, ea, es, l1, lp, ej, ix, eq, wipeE, -forL_cons]
include J
theorem o_laid {k : Nat} (hk : k < r.lg.length) (at' : Int) (st : Sto) : d__law_one_right_l3 ((oE r a b at' none none none none (some (.d (.bool (allLy a b r k))))).set 15 (some (.d (stD r.lg r.x r.y r.W k))) |>.set 9 (some (.d (stsD (lay r k))))) st = .nx (oE r a b at' none none none none (some (.d (.bool (allLy a b r (k + 1)))))) st := by
  have e6 : ixD (stD r.lg r.x r.y r.W k) (.int 3) = some (.int (he r.lg r.W k)) := rfl
  have h1 := R.ok k hk
  have h78 := he_b R hk
  have el := fun st => r_is_laying J (L := he r.lg r.W k) ⟨h1, by omega⟩ (R.s k hk).1 (R.s k hk).2 st
  have l1 : ((lay r k).map c2).length ≤ 1000000 := by rw [List.length_map]; have := (R.s k hk).1.2; omega
  have es : ∀ st, srcW (.d (stsD (lay r k))) st = .ok ⟨(lay r k).map c2, []⟩ st := fun _ => rfl
  have c1 := lcL_mapE (g := gN 19) (c := eOp2 ixD (eVar 19) (eK (.int 1))) (env := (oE r a b at' none none none none (some (.d (.bool (allLy a b r k))))).set 15 (some (.d (stD r.lg r.x r.y r.W k))) |>.set 9 (some (.d (stsD (lay r k))))) (st := st) c2 (fun q => .int q.2) (lay r k) [] (fun q _ => ⟨_, rfl, by simp -implicitDefEqProofs [oE, c2]⟩)
  have c3 := lcL_mapE (g := gN 19) (c := eOp2 ixD (eVar 19) (eK (.int 0))) (env := (oE r a b at' none none none none (some (.d (.bool (allLy a b r k))))).set 15 (some (.d (stD r.lg r.x r.y r.W k))) |>.set 9 (some (.d (stsD (lay r k))))) (st := st) c2 (fun q => .int q.1) (lay r k) [] (fun q _ => ⟨_, rfl, by simp -implicitDefEqProofs [oE, c2]⟩)
  rw [List.nil_append, show (lay r k).map (fun q => PyData.int q.2) = ((lay r k).map fun q => q.2).map .int from by rw [List.map_map]; rfl] at c1
  rw [List.nil_append, show (lay r k).map (fun q => PyData.int q.1) = ((lay r k).map fun q => q.1).map .int from by rw [List.map_map]; rfl] at c3
  have t1 : tupF [.list (((lay r k).map fun q => q.2).map .int)] = some (lgsD (lay r k)) := rfl
  have t2 : tupF [.list (((lay r k).map fun q => q.1).map .int)] = some (strD (lay r k)) := rfl
  rw [allLy_succ]
  unfold oE at *
  simp only [List.set_cons_succ, List.set_cons_zero] at c1 c3 ⊢
  generalize ((lay r k).map fun q => q.2).map PyData.int = Y1 at *
  generalize ((lay r k).map fun q => q.1).map PyData.int = Y2 at *
  generalize lgsD (lay r k) = D1 at *
  generalize strD (lay r k) = D2 at *
  generalize (lay r k).map c2 = TT at *
  generalize (bxs r).map rcb = RR at *
  generalize stD r.lg r.x r.y r.W k = SD at *
  generalize (List.range r.lg.length).map (stD r.lg r.x r.y r.W) = SS at *
  generalize PyData.tuple (r.laid.map stsD) = LD at *
  generalize ptD r.x r.y r.lg = PD at *
  generalize rowD r = RD at *
  generalize stsD (lay r k) = TD at *
  unfold d__law_one_right_l3
  cases q : allLy a b r k <;> rw [q] at c1 c3 <;> simp -implicitDefEqProofs [es, l1, c1, c3, t1, t2, e6, el, wipeE]
theorem r_one_right (st : Sto) : m__law_one_right [.d (rowD r), .d (.tuple [.int a, .int b])] st = .ok (.d (.bool true)) st := by
  have e1 := fun st => r_strips R st
  have e2 : ∀ st, m_stones_of [.d (rowD r)] st = .ok (.d (.list ((bxs r).map rcb))) st := fun st => by
    have n1 := fun st => r_need_row R st
    have n2 := fun st => r_rectangles R st
    generalize rowD r = RD at *
    generalize (bxs r).map rcb = RR at *
    unfold m_stones_of d_stones_of
    simp -implicitDefEqProofs [n1, n2]
  have hn := R.P.n
  have en : enumD (r.laid.map stsD) = (List.range r.lg.length).map fun k => PyData.tuple [.int (k : Nat), stsD (lay r k)] := by
    rw [laid_rng R.n]
    refine List.ext_getElem (by simp [enumD]) fun i h1 h2 => ?_
    simp only [enumD, List.getElem_mapIdx, List.getElem_map, List.getElem_range]
  have lp1 := forL_at (g := gTp (gCn (gN 8) (gCn (gN 9) gNl))) (b := d__law_one_right_l2) (fun k => oE r a b (bse r k) none none none none none) (fun _ => st) ((List.range r.lg.length).map fun k => PyData.tuple [.int (k : Nat), stsD (lay r k)]) (fun k x hx => by
    obtain ⟨hk, rfl⟩ := rng_get hx
    exact ⟨_, rfl, o_strip R hk st⟩)
  rw [← en, show (enumD (r.laid.map stsD)).length = r.lg.length from by rw [en, List.length_map, List.length_range]] at lp1
  have zp : List.zipWith pairD ((List.range r.lg.length).map (stD r.lg r.x r.y r.W)) (r.laid.map stsD) = (List.range r.lg.length).map fun k => pairD (stD r.lg r.x r.y r.W k) (stsD (lay r k)) := by
    rw [laid_rng R.n, List.zipWith_map, List.zipWith_self]
  have lp2 := forL_at (g := gTp (gCn (gN 15) (gCn (gN 9) gNl))) (b := d__law_one_right_l3) (fun k => oE r a b (bse r r.lg.length) none none none none (some (.d (.bool (allLy a b r k))))) (fun _ => st) ((List.range r.lg.length).map fun k => pairD (stD r.lg r.x r.y r.W k) (stsD (lay r k))) (fun k x hx => by
    obtain ⟨hk, rfl⟩ := rng_get hx
    exact ⟨_, rfl, o_laid R J hk _ st⟩)
  rw [← zp, show (List.zipWith pairD ((List.range r.lg.length).map (stD r.lg r.x r.y r.W)) (r.laid.map stsD)).length = r.lg.length from by rw [zp, List.length_map, List.length_range]] at lp2
  have z0 : allLy a b r 0 = true := rfl
  rw [z0] at lp2
  have b0 : ((bse r 0 : Nat) : Int) = 0 := rfl
  rw [b0] at lp1
  have bn : bse r r.lg.length = (bxs r).length := rfl
  have ec := fun st => r_first_cover R.P R.w R.ok st
  have eo := fun st => r_first_over (rs := [r]) (by simp) (fun x hx => by rw [show x = r by simpa using hx]; exact R) st
  have ei := fun st => r_in_joints J R st
  have i1 : isNone (fcD r.lg r.x r.y r.W) = true → isNone (ovD (allB [r])) = true := by
    rcases fc_is r.lg r.x r.y r.W with q | ⟨u, v, q⟩
    · have hf : fcD r.lg r.x r.y r.W = .none := by unfold fcD; rw [q]
      have ho : ovD (allB [r]) = .none := ovD_none.mpr (by rw [recs_one]; exact apt_row R hf)
      rw [hf, ho]
      exact fun _ => rfl
    · intro z
      unfold fcD at z
      rw [q] at z
      cases z
  have i2 : isNone (inR a b r) = allLy a b r r.lg.length := by
    cases h : allLy a b r r.lg.length with
    | true => rw [(inR_ly R a b).mpr h]; rfl
    | false =>
      have hne : inR a b r ≠ .none := fun z => by rw [(inR_ly R a b).mp z] at h; cases h
      unfold inR at hne ⊢
      cases q : (List.range r.lg.length).findSome? (fun i => (amR a b (lay r i) (he r.lg r.W i)).map fun k => PyData.tuple [.int (i : Nat), .int (k : Nat)]) with
      | none => rw [q] at hne; exact absurd rfl hne
      | some d =>
        obtain ⟨i, hi, e⟩ := List.exists_of_findSome?_eq_some q
        cases h2 : amR a b (lay r i) (he r.lg r.W i) with
        | none => rw [h2] at e; cases e
        | some k => rw [h2] at e; cases e; rfl
  have ez : ∀ st, enumW [.d (.tuple (r.laid.map stsD))] st = .ok ⟨enumD (r.laid.map stsD), []⟩ st := fun _ => rfl
  have zz : ∀ st, zip2W [.d (.list ((List.range r.lg.length).map (stD r.lg r.x r.y r.W))), .d (.tuple (r.laid.map stsD))] st = .ok ⟨List.zipWith pairD ((List.range r.lg.length).map (stD r.lg r.x r.y r.W)) (r.laid.map stsD), []⟩ st := fun _ => rfl
  have l1 : (enumD (r.laid.map stsD)).length ≤ 1000000 := by rw [en, List.length_map, List.length_range]; omega
  have l2 : (List.zipWith pairD ((List.range r.lg.length).map (stD r.lg r.x r.y r.W)) (r.laid.map stsD)).length ≤ 1000000 := by rw [zp, List.length_map, List.length_range]; omega
  have tw : ∀ st, tupW [.d (rowD r)] st = .ok (.d (rowsD [r])) st := fun _ => rfl
  have rd : rowD r = .tuple [ptD r.x r.y r.lg, .int r.W, .tuple (r.laid.map stsD)] := rfl
  have ln : lenF [.list ((bxs r).map rcb)] = some (.int ((bxs r).length : Nat)) := by simp
  rw [bn] at lp1 lp2
  unfold oE at lp1 lp2
  unfold m__law_one_right d__law_one_right
  generalize hZ : List.zipWith pairD ((List.range r.lg.length).map (stD r.lg r.x r.y r.W)) (r.laid.map stsD) = ZZ at *
  generalize enumD (r.laid.map stsD) = EE at *
  generalize (bxs r).map rcb = RR at *
  generalize (List.range r.lg.length).map (stD r.lg r.x r.y r.W) = SS at *
  generalize PyData.tuple (r.laid.map stsD) = LD at *
  generalize fcD r.lg r.x r.y r.W = FD at *
  generalize ptD r.x r.y r.lg = PD at *
  generalize ovD (allB [r]) = OD at *
  generalize inR a b r = ID at *
  generalize rowsD [r] = RS at *
  rw [rd]
  rw [rd] at lp1 lp2 tw ei e2
  cases c : isNone FD with
  | true =>
    have i3 := i1 c
    simp -implicitDefEqProofs [e1, e2, ez, l1, lp1, zz, l2, lp2, ec, c, tw, eo, i3, ln, ei, i2, wipeE, -forL_cons]
  | false => simp -implicitDefEqProofs [e1, e2, ez, l1, lp1, zz, l2, lp2, ec, c, ln, ei, i2, wipeE, -forL_cons]
end
end
section
variable [Tbl]
open PySem.W (Datum DatumOrd Tup minOf maxOf)
/-! ## stones drawn along a strip -/
theorem SOk.snoc {L : Int} {q : Int × Int} : ∀ {t : Sts} {e : Int}, SOk L e t → endOf e t ≤ q.1 → 1 ≤ q.2 → q.2 ≤ 20 → q.1 + q.2 ≤ L → SOk L e (t ++ [q]) ∧ endOf e (t ++ [q]) = q.1 + q.2
  | [], e, h, h1, h2, h3, h4 => ⟨⟨h1, h2, h3, h4, trivial⟩, rfl⟩
  | q0 :: t, e, h, h1, h2, h3, h4 => by
    obtain ⟨a1, a2, a3, a4, a5⟩ := h
    obtain ⟨i1, i2⟩ := SOk.snoc (q := q) a5 h1 h2 h3 h4
    exact ⟨⟨a1, a2, a3, a4, i1⟩, i2⟩
structure StI (p n : Nat) (st : Sto) (L : Int) (t : Sts) (a : Int) (st' : Sto) : Prop where
  at' : st'[n]? = some (.lst (t.map c2))
  px : Px p n st st'
  ok : SOk L 0 t
  e : endOf 0 t ≤ a
  a : 0 ≤ a
  n : t.length ≤ 12
def stT : En → Sto → Rs Bool := (tAnd2 (tBl (eOp2 ltD (eVar 3) (eVar 1))) (tBl (eOp2 ltD (eOpN lenF (aCons (eVar 2) aNil)) (eK (.int 12)))))
noncomputable def stB : En → Sto → SR := (sWp [4] (sSeq (sSet 4 (eOp2 addD (eK (.int 1)) (eCall m__law_draw (aCons (eVar 0) (aCons (eOpN min2F (aCons (eK (.int 20)) (aCons (eOp2 subD (eVar 1) (eVar 3)) aNil))) aNil)))))
    (sSeq (sExp (eM appW (eVar 2) (aCons (eTup (aCons (eVar 3) (aCons (eVar 4) aNil))) aNil)))
    (sSet 3 (eOp2 addD (eOp2 addD (eVar 3) (eVar 4)) (eOp2 ixD (eLst (aCons (eK (.int 0)) (aCons (eK (.int 1)) (aCons (eK (.int 2)) (aCons (eK (.int 9)) aNil))))) (eCall m__law_draw (aCons (eVar 0) (aCons (eK (.int 4)) aNil)))))))))
def stE (p n : Nat) (L a : Int) : En := [some (.r p), some (.d (.int (L))), some (.r n), some (.d (.int (a))), none]
theorem gap4 {v : Int} (h0 : 0 ≤ v) (h1 : v < 4) : ∃ g : Int, ixD (.list [.int 0, .int 1, .int 2, .int 9]) (.int v) = some (.int g) ∧ 0 ≤ g ∧ g ≤ 9 := by
  obtain rfl | rfl | rfl | rfl : v = 0 ∨ v = 1 ∨ v = 2 ∨ v = 3 := by omega
  · exact ⟨0, rfl, by decide, by decide⟩
  · exact ⟨1, rfl, by decide, by decide⟩
  · exact ⟨2, rfl, by decide, by decide⟩
  · exact ⟨9, rfl, by decide, by decide⟩
theorem st_turn {p n : Nat} {st : Sto} {L : Int} (hL : L ≤ 1000) (hp : p < n) {t : Sts} {a : Int} {st' : Sto} (I : StI p n st L t a st') (h1 : a < L) (h2 : t.length < 12) :
    stT (stE p n L a) st' = .ok true st' ∧ ∃ t2 a2 st2, stB (stE p n L a) st' = .nx (stE p n L a2) st2 ∧ StI p n st L t2 a2 st2 ∧ t2.length = t.length + 1 := by
  obtain ⟨at', px, ok, e, a0, hn⟩ := I
  have lk := look_l at'
  have ll : ((t.map c2).length : Int) < 12 := by rw [List.length_map]; omega
  refine ⟨?_, ?_⟩
  · unfold stT stE
    generalize t.map c2 = T at *
    simp -implicitDefEqProofs [h1, lk, ll, looks]
  · have hm : 1 ≤ (if L - a < 20 then L - a else 20) ∧ (if L - a < 20 then L - a else 20) ≤ 20 ∧ (if L - a < 20 then L - a else 20) ≤ L - a := by split <;> omega
    obtain ⟨u, st1, e1, b1, b2, c1⟩ := r_draw (if L - a < 20 then L - a else 20) px.pen (by omega) (by omega)
    have g1 : st1[n]? = some (.lst (t.map c2)) := by rw [c1.sm n (by omega)]; exact at'
    have il := isLst_l g1
    have px1 := (px.pn c1).put (i := n) (Nat.le_refl _) hp (.lst ((t ++ [(a, 1 + u)]).map c2))
    have ap := appW_l g1 (by rw [List.length_map]; omega) (c2 (a, 1 + u))
    rw [show t.map c2 ++ [c2 (a, 1 + u)] = (t ++ [(a, 1 + u)]).map c2 from by rw [List.map_append]; rfl] at ap
    obtain ⟨v, st2, e2, d1, d2, f2⟩ := r_draw 4 px1.pen (by decide) (by decide)
    obtain ⟨g, eg, g0, g9⟩ := gap4 d1 d2
    have hnl : n < st1.length := (List.getElem?_eq_some_iff.mp g1).1
    have g2 : st2[n]? = some (.lst ((t ++ [(a, 1 + u)]).map c2)) := by rw [f2.sm n (by omega)]; exact List.getElem?_set_self hnl
    obtain ⟨s1, s2⟩ := SOk.snoc (q := (a, 1 + u)) ok e (by show 1 ≤ 1 + u; omega) (by show 1 + u ≤ 20; omega) (by show a + (1 + u) ≤ L; omega)
    refine ⟨t ++ [(a, 1 + u)], a + (1 + u) + g, st2, ?_, ⟨g2, px1.pn f2, s1, by rw [s2]; show a + (1 + u) ≤ _; omega, by omega, by simp; omega⟩, by simp⟩
    have tw : ∀ st, tupW [(.d (.int (a))), (.d (.int (1 + u)))] st = .ok (.d (c2 (a, 1 + u))) st := fun st => rfl
    unfold stB stE
    generalize (t ++ [(a, 1 + u)]).map c2 = T2 at *
    generalize c2 (a, 1 + u) = C at *
    simp -implicitDefEqProofs [e1, tw, il, ap, e2, lstW, eg, wipeE]
theorem st_loop {p n : Nat} {st : Sto} {L : Int} (hL : L ≤ 1000) (hp : p < n) : ∀ (f : Nat) (t : Sts) (a : Int) (st' : Sto), 13 ≤ t.length + f → StI p n st L t a st' → ∃ t2 a2 st2, whL stT stB f (stE p n L a) st' = .nx (stE p n L a2) st2 ∧ StI p n st L t2 a2 st2
  | 0, t, a, st', h, I => absurd I.n (by omega)
  | f + 1, t, a, st', h, I => by
    by_cases h1 : a < L
    · by_cases h2 : t.length < 12
      · obtain ⟨q, t2, a2, st2, e2, I2, l2⟩ := st_turn hL hp I h1 h2
        obtain ⟨t3, a3, st3, e3, I3⟩ := st_loop hL hp f t2 a2 st2 (by omega) I2
        exact ⟨t3, a3, st3, by simp [whL, q, e2, e3], I3⟩
      · refine ⟨t, a, st', ?_, I⟩
        have q : stT (stE p n L a) st' = .ok false st' := by
          have lk := look_l I.at'
          have ll : ¬ ((t.map c2).length : Int) < 12 := by rw [List.length_map]; omega
          unfold stT stE
          generalize t.map c2 = T at *
          simp -implicitDefEqProofs [h1, lk, ll, looks]
        simp [whL, q]
    · refine ⟨t, a, st', ?_, I⟩
      have q : stT (stE p n L a) st' = .ok false st' := by
        unfold stT stE
        simp -implicitDefEqProofs [h1]
      simp [whL, q]
theorem r_law_stones {p : Nat} {st : Sto} (h : Pen p st) {L : Int} (hL : 1 ≤ L ∧ L ≤ 1000) : ∃ (t : Sts) (st' : Sto), m__law_stones [.r p, (.d (.int (L)))] st = .ok (.d (stsD t)) st' ∧ ((1 ≤ t.length ∧ t.length ≤ 12) ∧ SOk L 0 t) ∧ Pn p st st' := by
  have hp := h.lt
  have px0 := (Px.refl h).app [.lst []]
  obtain ⟨v1, st1, e1, a1, b1, c1⟩ := r_draw 3 px0.pen (by decide) (by decide)
  obtain ⟨v2, st2, e2, a2, b2, c2'⟩ := r_draw 2 c1.pen (by decide) (by decide)
  have px2 := (px0.pn c1).pn c2'
  have g2 : st2[st.length]? = some (.lst []) := by rw [c2'.sm _ (by omega), c1.sm _ (by omega)]; simp
  have hv : 0 ≤ v1 * v2 := Int.mul_nonneg a1 a2
  obtain ⟨t, a, st3, e3, I⟩ := st_loop hL.2 hp 100000 [] (v1 * v2) st2 (by simp) ⟨g2, px2, trivial, hv, hv, by simp⟩
  have bk := I.px.back hp
  have lk := look_l I.at'
  have lk1 := fun f => look1_l I.at' f
  have bg := fun j => big_l (i := v1) (j := j) a1 (by omega)
  have q : neD (.list (t.map c2)) (.list []) = some (.bool (!decide (t = []))) := q_ne t []
  have l1 : (t.map c2).length ≤ 1000000 := by rw [List.length_map]; have := I.n; omega
  have mk : ∀ T : Sts, (decide (t = []) = false → T = t) → (decide (t = []) = true → T = [(0, 1)]) → m__law_stones [.r p, (.d (.int (L)))] st = .ok (.d (stsD T)) (st3.take st.length) := fun T h1 h2 => by
    unfold stT stB at e3
    unfold stE at e3
    unfold m__law_stones d__law_stones sWh
    cases hd : decide (t = []) with
    | false =>
      rw [hd] at q
      rw [h1 hd]
      unfold stsD
      generalize t.map c2 = TT at *
      simp -implicitDefEqProofs [newW, e1, e2, bg, e3, lstW, lk, lk1, q, looks]
    | true =>
      rw [hd] at q
      rw [h2 hd]
      have z : stsD [(0, 1)] = .tuple [.tuple [.int 0, .int 1]] := rfl
      rw [z]
      generalize t.map c2 = TT at *
      simp -implicitDefEqProofs [newW, e1, e2, bg, e3, lstW, tupW, lk, lk1, q, looks]
  by_cases ht : t = []
  · exact ⟨[(0, 1)], _, mk _ (fun z => absurd ht (of_decide_eq_false z)) (fun _ => rfl), ⟨⟨by simp, by simp⟩, ⟨by decide, by decide, by decide, hL.1, trivial⟩⟩, bk⟩
  · exact ⟨t, _, mk _ (fun _ => rfl) (fun z => absurd (of_decide_eq_true z) ht), ⟨⟨List.length_pos_iff.mpr ht, I.n⟩, I.ok⟩, bk⟩
end
section
variable [Tbl]
/-! ## a row drawn -/
theorem lcL_penE {α β : Type} {g : Wv → En → Option En} {c : En → Sto → Rs Wv} {env : En} {p : Nat} (enc : α → PyData) (out : β → PyData) (Q : α → β → Prop) : ∀ (L : List α) (acc : List PyData) (st : Sto), Pen p st → (∀ a ∈ L, ∀ st, Pen p st → ∃ env1 y st', g (.d (enc a)) env = some env1 ∧ c env1 st = .ok (.d (out y)) st' ∧ Q a y ∧ Pn p st st') →
    ∃ (R : List β) (st' : Sto), lcL g tYs c [] env (L.map enc) acc st = .ok (acc ++ R.map out) st' ∧ Pn p st st' ∧ R.length = L.length ∧ ∀ (i : Nat) (a : α), L[i]? = some a → ∃ y, R[i]? = some y ∧ Q a y
  | [], acc, st, h, _ => ⟨[], st, by simp [lcL], .refl h, rfl, fun i a e => absurd e (by simp)⟩
  | a :: L, acc, st, h, f => by
    obtain ⟨env1, y, st1, e1, e2, q, c1⟩ := f a (by simp) st h
    obtain ⟨R, st2, e3, c2, hl, hq⟩ := lcL_penE enc out Q L (acc ++ [out y]) st1 c1.pen fun b hb => f b (by simp [hb])
    refine ⟨y :: R, st2, ?_, c1.trans c2, by simp [hl], fun i b e => ?_⟩
    · rw [List.map_cons, lcL]
      simp [e1, tYs, e2, e3]
    · cases i with
      | zero => simp at e; subst e; exact ⟨y, by simp, q⟩
      | succ i => simpa using hq i b (by simpa using e)
section
variable {x y : Int} {lg : Lgs} (P : Pt x y lg) {W : Int} (hW : 1 ≤ W ∧ W ≤ 9) (ok : ∀ k, k < lg.length → 1 ≤ he lg W k)
include P hW ok
theorem row_end {p : Nat} {g : Wv → En → Option En} {c : En → Sto → Rs Wv} {env : En} (hg : ∀ k, ∃ env1, g (.d (stD lg x y W k)) env = some env1 ∧ ∀ st t st', m__law_stones [.r p, (.d (.int (he lg W k)))] st = .ok (.d (stsD t)) st' → c env1 st = .ok (.d (stsD t)) st') {st : Sto} (h : Pen p st) :
    ∃ (laid : List Sts) (st' : Sto), lcL g tYs c [] env ((List.range lg.length).map (stD lg x y W)) [] st = .ok (laid.map stsD) st' ∧ RwOk ⟨x, y, lg, W, laid⟩ ∧ Pn p st st' := by
  obtain ⟨R, st', e, c1, hl, hq⟩ := lcL_penE (g := g) (c := c) (env := env) (p := p) (stD lg x y W) stsD (fun k t => ((1 ≤ t.length ∧ t.length ≤ 12) ∧ SOk (he lg W k) 0 t)) (List.range lg.length) [] st h (fun k hk st hp => by
    have hk2 := List.mem_range.mp hk
    obtain ⟨env1, g1, g2⟩ := hg k
    obtain ⟨t, st1, e1, q, c1⟩ := r_law_stones hp (L := he lg W k) ⟨ok k hk2, by
      have kk := P.k hk2
      have a := ah_b (lg := lg) hW k
      have m : 0 ≤ mo lg W k ∧ mo lg W k ≤ 9 := by unfold mo; split <;> (try split) <;> omega
      unfold he
      omega⟩
    exact ⟨env1, t, st1, g1, g2 _ _ _ e1, q, c1⟩)
  rw [List.nil_append] at e
  refine ⟨R, st', e, ⟨P, hW, ok, by rw [hl, List.length_range], fun k hk => ?_⟩, c1⟩
  obtain ⟨t, e1, q⟩ := hq k k (by rw [List.getElem?_range hk])
  show (1 ≤ ((R[k]?).getD []).length ∧ ((R[k]?).getD []).length ≤ 12) ∧ SOk (he lg W k) 0 ((R[k]?).getD [])
  rw [e1]
  exact q
end
theorem first_bad (f : Nat → Int) : ∀ m, (∀ k, k < m → 1 ≤ f k) ∨ ∃ n, n < m ∧ ¬ 1 ≤ f n ∧ ∀ k, k < n → 1 ≤ f k
  | 0 => .inl fun k h => absurd h (Nat.not_lt_zero k)
  | m + 1 => by
    rcases first_bad f m with h | ⟨n, h1, h2, h3⟩
    · by_cases q : 1 ≤ f m
      · refine .inl fun k hk => ?_
        by_cases z : k < m
        · exact h k z
        · rw [show k = m from by omega]; exact q
      · exact .inr ⟨m, Nat.lt_succ_self m, q, h⟩
    · exact .inr ⟨n, by omega, h2, h3⟩
/-! ### the legs made shorter -/
def sh (lg : Lgs) : Lgs := (lg.take 4).map fun l => (l.1, 1 + l.2 % 14)
theorem sh_len {lg : Lgs} (h : 1 ≤ lg.length) : 1 ≤ (sh lg).length ∧ (sh lg).length ≤ 4 := by unfold sh; simp; omega
theorem sh_wy {lg : Lgs} {k : Nat} (h : k < (sh lg).length) : wy (sh lg) k = wy lg k := by
  have hk : k < 4 ∧ k < lg.length := by unfold sh at h; simp at h; omega
  unfold wy sh
  rw [List.getElem?_map, List.getElem?_take_of_lt hk.1]
  rw [List.getElem?_eq_getElem hk.2]
  rfl
structure Small (r : Row) : Prop where
  x : -30 ≤ r.x ∧ r.x ≤ 30
  y : -30 ≤ r.y ∧ r.y ≤ 30
theorem pt_sh {x y x2 y2 : Int} {lg : Lgs} (P : Pt x y lg) (h1 : -1000 ≤ x2 ∧ x2 ≤ 1000) (h2 : -1000 ≤ y2 ∧ y2 ≤ 1000) : Pt x2 y2 (sh lg) := by
  have hl := sh_len P.n.1
  refine ⟨h1, h2, ⟨hl.1, by omega⟩, fun l hl => ?_, fun k hk => ?_⟩
  · unfold sh at hl
    obtain ⟨l0, h0, rfl⟩ := List.mem_map.mp hl
    have := P.ok l0 (List.mem_of_mem_take h0)
    exact ⟨this.1, by show 1 ≤ 1 + l0.2 % 14; omega, by show 1 + l0.2 % 14 ≤ 60; omega⟩
  · have hk2 : k + 1 < lg.length := by unfold sh at hk; simp at hk; omega
    have := P.t k hk2
    unfold tq at *
    rw [sh_wy hk, sh_wy (by omega)]
    exact this
theorem pt_one {x y : Int} {lg : Lgs} (P : Pt x y lg) : Pt x y (lg.take 1) := by
  have := P.n
  exact ⟨P.x, P.y, ⟨by simp; omega, by simp; omega⟩, fun l hl => P.ok l (List.mem_of_mem_take hl), fun k hk => by simp at hk; omega⟩
theorem one_ok {x y : Int} {lg : Lgs} (P : Pt x y lg) (W : Int) : ∀ k, k < (lg.take 1).length → 1 ≤ he (lg.take 1) W k := fun k hk => by
  have h0 : k = 0 := by simp at hk; omega
  subst h0
  have kk := (pt_one P).k hk
  have e : he (lg.take 1) W 0 = ln (lg.take 1) 0 + mo (lg.take 1) W 0 - 0 := rfl
  have m : mo (lg.take 1) W 0 = 0 := if_neg (show ¬ (0 + 1 < (lg.take 1).length) by simp; omega)
  rw [e, m]
  omega
end
section
variable [Tbl]
noncomputable def rwT : En → Sto → SR := (sSeq (sSet 4 (eCall m__law_strips (aCons (eVar 1) (aCons (eVar 2) aNil))))
    (sSeq (sIf (tTru (eOp1 (isaD "int") (eVar 4))) (sSeq (sSet 1 (eOp2 addD (eSlice (eVar 1) pNo (pSome (eK (.int 2)))) (eTup (aCons (eSlice (eOp2 ixD (eVar 1) (eK (.int 2))) pNo (pSome (eK (.int 1)))) aNil))))
    (sSet 4 (eCall m__law_strips (aCons (eVar 1) (aCons (eVar 2) aNil))))) sNil)
    (sRet (eTup (aCons (eVar 1) (aCons (eVar 2) (aCons (eOpN tupF (aCons (eLc (cSeq (eVar 4)) (gN 6) tYs (eCall m__law_stones (aCons (eVar 0) (aCons (eOp2 ixD (eVar 6) (eK (.int 3))) aNil))) [5, 6]) aNil)) aNil)))))))
theorem row_mk {X Y : Int} {G : Lgs} {W : Int} (hW : 1 ≤ W ∧ W ≤ 9) (P : Pt X Y G) (ok : ∀ k, k < G.length → 1 ≤ he G W k) {p : Nat} {st : Sto} (h : Pen p st) (m : Option Wv) (sc : PyData) :
    ∃ (laid : List Sts) (st' : Sto), lcL (gN 6) tYs (eCall m__law_stones (aCons (eVar 0) (aCons (eOp2 ixD (eVar 6) (eK (.int 3))) aNil))) [] [some (.r p), some (.d (ptD X Y G)), some (.d (.int (W))), m, some (.d sc), none, none, none, none] ((List.range G.length).map (stD G X Y W)) [] st = .ok (laid.map stsD) st' ∧ RwOk ⟨X, Y, G, W, laid⟩ ∧ Pn p st st' :=
  row_end P hW ok (fun k => ⟨_, rfl, fun st t st' e => by
    show (eCall m__law_stones (aCons (eVar 0) (aCons (eOp2 ixD (eVar 6) (eK (.int 3))) aNil))) [some (.r p), some (.d (ptD X Y G)), some (.d (.int (W))), m, some (.d sc), none, some (.d (stD G X Y W k)), none, none] st = _
    have e3 : ixD (stD G X Y W k) (.int 3) = some (.int (he G W k)) := rfl
    generalize ptD X Y G = PD at *
    generalize stD G X Y W k = SD at *
    generalize stsD t = TT at *
    simp -implicitDefEqProofs [e3, e]⟩) h
theorem row_tail {X Y : Int} {G : Lgs} {W : Int} (hW : 1 ≤ W ∧ W ≤ 9) (P : Pt X Y G) {p : Nat} {st : Sto} (h : Pen p st) (m : Int) :
    ∃ (r : Row) (st' : Sto), rwT [some (.r p), some (.d (ptD X Y G)), some (.d (.int (W))), some (.d (.int (m))), none, none, none, none, none] st = .rt (.w (.d (rowD r))) st' ∧ RwOk r ∧ r.x = X ∧ r.y = Y ∧ Pn p st st' := by
  have rw3 : ∀ (G : Lgs) (lay : List Sts) st, tupW [.d (ptD X Y G), (.d (.int (W))), .d (.tuple (lay.map stsD))] st = .ok (.d (rowD ⟨X, Y, G, W, lay⟩)) st := fun G lay st => rfl
  have Pn1 := P.n
  rcases first_bad (he G W) G.length with ok | ⟨n, h1, h2, h3⟩
  · obtain ⟨laid, st3, e3, R, c3⟩ := row_mk hW P ok h (some (.d (.int (m)))) (.list ((List.range G.length).map (stD G X Y W)))
    refine ⟨_, st3, ?_, R, rfl, rfl, c3⟩
    have es := fun st => r_law_strips_ok P hW ok st
    have l6 : ((List.range G.length).map (stD G X Y W)).length ≤ 1000000 := by rw [List.length_map, List.length_range]; omega
    have ll : (laid.map stsD).length ≤ 1000000 := by rw [List.length_map]; have := R.n; dsimp only at *; omega
    have t3 := rw3 G laid
    generalize rowD ⟨X, Y, G, W, laid⟩ = RD at *
    generalize laid.map stsD = LD at *
    generalize (List.range G.length).map (stD G X Y W) = SS at *
    generalize ptD X Y G = P2 at *
    unfold rwT
    simp -implicitDefEqProofs [srcW_dl, l6, ll, wipeE, es, e3, t3]
  · obtain ⟨laid, st3, e3, R, c3⟩ := row_mk hW (pt_one P) (one_ok P _) h (some (.d (.int (m)))) (.list ((List.range (G.take 1).length).map (stD (G.take 1) X Y W)))
    refine ⟨_, st3, ?_, R, rfl, rfl, c3⟩
    have eb := fun st => r_law_strips_bad P hW h1 h3 h2 st
    have es := fun st => r_law_strips_ok (pt_one P) hW (one_ok P _) st
    have l6 : ((List.range (G.take 1).length).map (stD (G.take 1) X Y W)).length ≤ 1000000 := by rw [List.length_map, List.length_range]; simp; omega
    have ll : (laid.map stsD).length ≤ 1000000 := by rw [List.length_map]; have := R.n; simp at this; omega
    have t3 := rw3 (G.take 1) laid
    have y2 : ixD (ptD X Y G) (.int 2) = some (.tuple (G.map lgD)) := rfl
    have c3' : cutD (G.map lgD) none (some 1) = (G.take 1).map lgD := by rw [show (1 : Int) = ((1 : Nat) : Int) from rfl, cutD_take, List.map_take]
    have sl : slD none (some 2) (ptD X Y G) = some (.tuple [.int X, .int Y]) := rfl
    have ad : addD (.tuple [.int X, .int Y]) (.tuple [.tuple ((G.take 1).map lgD)]) = some (ptD X Y (G.take 1)) := rfl
    have t1 : ∀ st, tupW [.d (.tuple ((G.take 1).map lgD))] st = .ok (.d (.tuple [.tuple ((G.take 1).map lgD)])) st := fun st => rfl
    generalize rowD ⟨X, Y, G.take 1, W, laid⟩ = RD at *
    generalize laid.map stsD = LD at *
    generalize (List.range (G.take 1).length).map (stD (G.take 1) X Y W) = SS at *
    generalize ptD X Y (G.take 1) = P3 at *
    generalize ptD X Y G = P2 at *
    generalize (G.take 1).map lgD = L6 at *
    generalize G.map lgD = L5 at *
    unfold rwT
    simp -implicitDefEqProofs [y2, c3', sl, ad, t1, srcW_dl, l6, ll, wipeE, eb, es, e3, t3]
theorem leg_sh (l : Nat × Int) (v0 v1 v2 v3 v4 v5 v6 : Option Wv) (st : Sto) : (eTup (aCons (eVar 7) (aCons (eOp2 addD (eK (.int 1)) (eOp2 modD (eVar 8) (eK (.int 14)))) aNil))) [v0, v1, v2, v3, v4, v5, v6, some (.d (.str (wayS l.1))), some (.d (.int (l.2)))] st = .ok (.d (lgD (l.1, 1 + l.2 % 14))) st := by
  unfold lgD
  generalize wayS l.1 = w
  simp -implicitDefEqProofs [tupW]
theorem d_row_eq : d__law_row = sSeq (sPar3 1 2 3 (aCons (eCall m__law_path (aCons (eVar 0) aNil)) (aCons (eOp2 addD (eK (.int 1)) (eCall m__law_draw (aCons (eVar 0) (aCons (eK (.int 4)) aNil)))) (aCons (eCall m__law_draw (aCons (eVar 0) (aCons (eK (.int 4)) aNil))) aNil))))
    (sSeq (sIf (tBl (eOp2 eqD (eVar 3) (eK (.int 0)))) (sSet 2 (eOp2 addD (eK (.int 1)) (eCall m__law_draw (aCons (eVar 0) (aCons (eK (.int 9)) aNil))))) (sSet 1 (eTup (aCons (eOp2 divD (eOp2 ixD (eVar 1) (eK (.int 0))) (eK (.int 6))) (aCons (eOp2 divD (eOp2 ixD (eVar 1) (eK (.int 1))) (eK (.int 6))) (aCons (eOpN tupF (aCons (eLc (cSeq (eSlice (eOp2 ixD (eVar 1) (eK (.int 2))) pNo (pSome (eK (.int 4))))) (gTp (gCn (gN 7) (gCn (gN 8) gNl))) tYs (eTup (aCons (eVar 7) (aCons (eOp2 addD (eK (.int 1)) (eOp2 modD (eVar 8) (eK (.int 14)))) aNil))) [5, 7, 8]) aNil)) aNil))))))
    rwT) := rfl
theorem r_law_row {p : Nat} {st : Sto} (h : Pen p st) : ∃ (r : Row) (st' : Sto), m__law_row [.r p] st = .ok (.d (rowD r)) st' ∧ RwOk r ∧ Small r ∧ Pn p st st' := by
  obtain ⟨x, y, lg, st1, e1, b1, P, c1⟩ := r_path h
  obtain ⟨w, st2, e2, a2, b2, c2'⟩ := r_draw 4 c1.pen (by decide) (by decide)
  obtain ⟨m, st3, e3, a3, b3, c3⟩ := r_draw 4 (c1.trans c2').pen (by decide) (by decide)
  have c13 := (c1.trans c2').trans c3
  by_cases hm : m = 0
  · obtain ⟨w2, st4, e4, a4, b4, c4⟩ := r_draw 9 c13.pen (by decide) (by decide)
    have c14 := c13.trans c4
    obtain ⟨r, st5, e5, R, hx, hy, c5⟩ := row_tail (W := 1 + w2) (by omega) P c14.pen m
    refine ⟨r, st5, ?_, R, ⟨by rw [hx]; omega, by rw [hy]; omega⟩, c14.trans c5⟩
    have tk : st5.take st.length = st5 := List.take_of_length_le (Nat.le_of_eq (c14.trans c5).len)
    subst hm
    unfold m__law_row
    rw [d_row_eq]
    generalize rowD r = RD at *
    generalize ptD x y lg = PD at *
    simp -implicitDefEqProofs [e1, e2, e3, e4, e5, tk]
  · have P1 : Pt (x / 6) (y / 6) (sh lg) := pt_sh P (by omega) (by omega)
    obtain ⟨r, st5, e5, R, hx, hy, c5⟩ := row_tail (W := 1 + w) (by omega) P1 c13.pen m
    refine ⟨r, st5, ?_, R, ⟨by rw [hx]; omega, by rw [hy]; omega⟩, c13.trans c5⟩
    have tk : st5.take st.length = st5 := List.take_of_length_le (Nat.le_of_eq (c13.trans c5).len)
    have el := lcL_mapE (g := gTp (gCn (gN 7) (gCn (gN 8) gNl))) (c := eTup (aCons (eVar 7) (aCons (eOp2 addD (eK (.int 1)) (eOp2 modD (eVar 8) (eK (.int 14)))) aNil))) (env := [some (.r p), some (.d (ptD x y lg)), some (.d (.int (1 + w))), some (.d (.int (m))), none, none, none, none, none]) (st := st3) lgD (fun l => lgD (l.1, 1 + l.2 % 14)) (lg.take 4) [] (fun l _ => ⟨_, rfl, leg_sh l _ _ _ _ _ _ _ _⟩)
    rw [List.nil_append, show (lg.take 4).map (fun l => lgD (l.1, 1 + l.2 % 14)) = (sh lg).map lgD from by unfold sh; rw [List.map_map]; rfl] at el
    have ct : cutD (lg.map lgD) none (some 4) = (lg.take 4).map lgD := by rw [show (4 : Int) = ((4 : Nat) : Int) from rfl, cutD_take, List.map_take]
    have x0 : ixD (ptD x y lg) (.int 0) = some (.int x) := rfl
    have x1 : ixD (ptD x y lg) (.int 1) = some (.int y) := rfl
    have x2 : ixD (ptD x y lg) (.int 2) = some (.tuple (lg.map lgD)) := rfl
    have lt : ((lg.take 4).map lgD).length ≤ 1000000 := by simp; omega
    have ls : ((sh lg).map lgD).length ≤ 1000000 := by rw [List.length_map]; have := sh_len P.n.1; omega
    have tw : ∀ st, tupW [(.d (.int (x / 6))), (.d (.int (y / 6))), .d (.tuple ((sh lg).map lgD))] st = .ok (.d (ptD (x / 6) (y / 6) (sh lg))) st := fun st => rfl
    unfold m__law_row
    rw [d_row_eq]
    generalize rowD r = RD at *
    generalize ptD (x / 6) (y / 6) (sh lg) = P2 at *
    generalize ptD x y lg = PD at *
    generalize (lg.take 4).map lgD = L4 at *
    generalize (sh lg).map lgD = L5 at *
    simp -implicitDefEqProofs [e1, e2, e3, hm, x0, x1, x2, ct, srcW_dt, srcW_dl, lt, ls, wipeE, el, tw, e5, tk]
end
section
variable [Tbl]
/-! ## the rows' look: the plain part -/
theorem lcL_mapEL {α : Type} {g : Wv → En → Option En} {c : En → Sto → Rs Wv} {env : En} {st : Sto} {lv : List (Nat × List PyData)} (hl : lvOk lv st) (enc out : α → PyData) : ∀ (L : List α) (acc : List PyData), (∀ a ∈ L, ∃ env1, g (.d (enc a)) env = some env1 ∧ c env1 st = .ok (.d (out a)) st) → lcL g tYs c lv env (L.map enc) acc st = .ok (acc ++ L.map out) st
  | [], acc, _ => by simp [lcL, hl]
  | a :: L, acc, q => by
    obtain ⟨env1, e1, e2⟩ := q a (by simp)
    have ih := lcL_mapEL (g := g) (c := c) (env := env) hl enc out L (acc ++ [out a]) fun y hy => q y (by simp [hy])
    simp [lcL, hl, e1, e2, ih]
theorem r_stones_of {r : Row} (R : RwOk r) (st : Sto) : m_stones_of [.d (rowD r)] st = .ok (.d (.list ((bxs r).map rcb))) st := by
  have n1 := fun st => r_need_row R st
  have n2 := fun st => r_rectangles R st
  generalize rowD r = RD at *
  generalize (bxs r).map rcb = RR at *
  unfold m_stones_of d_stones_of
  simp -implicitDefEqProofs [n1, n2]
theorem gt_pair (a b c d : Int) : gtD (.tuple [.int a, .int b]) (.tuple [.int c, .int d]) = some (.bool (if c = a then decide (d < b) else decide (c < a))) := by
  have l := lt_c2 (c, d) (a, b)
  unfold c2 at l
  dsimp only at l
  rw [← l]
  show (if ltD' (PyData.tuple [.int a, .int b]) (PyData.tuple [.int c, .int d]) = true then some (PyData.bool (PySem.W.dataLt (PyData.tuple [.int c, .int d]) (PyData.tuple [.int a, .int b]))) else none) = _
  have h : ltD' (PyData.tuple [.int a, .int b]) (PyData.tuple [.int c, .int d]) = true := by
    unfold ltD'
    simp [PySem.W.alike, PySem.W.alikeAll, isNone, PyData.depth, PyData.depthAll]
  rw [if_pos h]
/-! ### the stones stand in order -/
def lexN (p q : Nb) : Prop := p.1 < q.1 ∨ (p.1 = q.1 ∧ p.2.1 < q.2.1)
theorem allB_pw (rs : List Row) : (allB rs).Pairwise lexN := by
  unfold allB allN
  refine List.pairwise_flatMap.mpr ⟨fun j _ => ?_, ?_⟩
  · unfold enB
    rw [List.pairwise_iff_getElem]
    intro i k hi hk h
    simp only [List.getElem_mapIdx]
    exact .inr ⟨rfl, h⟩
  · refine List.Pairwise.imp ?_ (List.pairwise_lt_range)
    intro i k h x hx y hy
    unfold enB at hx hy
    obtain ⟨_, _, rfl⟩ := List.mem_mapIdx.mp hx
    obtain ⟨_, _, rfl⟩ := List.mem_mapIdx.mp hy
    exact .inl h
theorem mem_nb {rs : List Row} {i s : Nat} {r : Row} {b : Bx} (h : rs[i]? = some r) (hb : (bxs r)[s]? = some b) : (i, s, b) ∈ allB rs := by
  unfold allB allN
  have hi := (List.getElem?_eq_some_iff.mp h).1
  refine List.mem_flatMap.mpr ⟨i, List.mem_range.mpr hi, ?_⟩
  unfold enB rwB
  rw [h]
  obtain ⟨hs, rfl⟩ := List.getElem?_eq_some_iff.mp hb
  exact List.mem_mapIdx.mpr ⟨s, hs, rfl⟩
theorem find_first {x y : Int} : ∀ {L : List Nb} {e : Nb}, L.Pairwise lexN → e ∈ L → hold (rcB e.2.2) x y = true → ∃ p : Nb, L.findSome? (at1 x y) = some (.w (.d (.tuple [.int p.1, .int p.2.1]))) ∧ (p = e ∨ lexN p e)
  | [], e, _, h, _ => absurd h List.not_mem_nil
  | a :: L, e, pw, h, hh => by
    rw [List.pairwise_cons] at pw
    rw [List.findSome?_cons]
    unfold at1
    cases q : hold (rcB a.2.2) x y with
    | true =>
      refine ⟨a, rfl, ?_⟩
      rcases List.mem_cons.mp h with rfl | h
      · exact .inl rfl
      · exact .inr (pw.1 e h)
    | false =>
      have h : e ∈ L := by
        rcases List.mem_cons.mp h with rfl | h
        · rw [q] at hh; cases hh
        · exact h
      exact find_first pw.2 h hh
theorem at_first {rs : List Row} (ok : ∀ r ∈ rs, RwOk r) {i s : Nat} {r : Row} {b : Bx} (h : rs[i]? = some r) (hb : (bxs r)[s]? = some b) :
    ∃ p q : Int, atR rs (rcB b).1 ((rcB b).2.2.2 - 1) = some (.w (.d (.tuple [.int p, .int q]))) ∧ (if (i : Int) = p then decide ((s : Int) < q) else decide ((i : Int) < p)) = false := by
  obtain ⟨hi, hr⟩ := List.getElem?_eq_some_iff.mp h
  obtain ⟨hs, hb2⟩ := List.getElem?_eq_some_iff.mp hb
  have I := (ok r (by rw [← hr]; exact List.getElem_mem hi)).bin (b := b) (by rw [← hb2]; exact List.getElem_mem hs)
  have I1 := I.x
  have I2 := I.y
  obtain ⟨p, e, le⟩ := find_first (allB_pw rs) (mem_nb h hb) (x := (rcB b).1) (y := (rcB b).2.2.2 - 1) (hold_iff.mpr ⟨⟨Int.le_refl _, I1⟩, by dsimp only; omega, by dsimp only; omega⟩)
  refine ⟨p.1, p.2.1, e, ?_⟩
  rcases le with rfl | l
  · simp
  · unfold lexN at l
    dsimp only at l
    split <;> simp only [decide_eq_false_iff_not] <;> omega
/-! ### the squares -/
theorem recs_take {rs : List Row} {i : Nat} {r : Row} (h : rs[i]? = some r) : recs (rs.take (i + 1)) = recs (rs.take i) ++ (bxs r).map rcB := by
  rw [recs_flat, recs_flat, List.take_add_one, h, List.flatMap_append]
  simp
theorem recs_len {rs : List Row} (ok : ∀ r ∈ rs, RwOk r) : (recs rs).length ≤ rs.length * 72 := by
  rw [recs_flat]
  exact flat_len _ 72 rs fun r hr => by rw [List.length_map]; exact (ok r hr).len
theorem over_area {rs : List Row} (hn : rs.length ≤ 6) (ok : ∀ r ∈ rs, RwOk r) : isNone (ovD (allB rs)) = (areaF (recs rs) == ((recs rs).map rA).sum) ∧ ¬ ((recs rs).map rA).sum < areaF (recs rs) := by
  have I := recs_in ok
  have a := area_all I
  rw [← areaF_is I] at a
  refine ⟨?_, by omega⟩
  have h : (isNone (ovD (allB rs)) = true) ↔ ovD (allB rs) = .none := by
    cases ovD (allB rs) <;> simp [isNone]
  rw [Bool.eq_iff_iff, h, ovD_none, beq_iff_eq]
  exact a.2.symm
theorem eq_ov (rs : List Row) : eqD (ovD (allB rs)) (ovD (allB rs)) = some (.bool true) := by
  rcases ov_is (allB rs) with q | ⟨p, _, p2, _, q⟩
  · unfold ovD; rw [q]; rfl
  · unfold ovD
    rw [q]
    have n := ne_rcD (p.1, p.2.1, p2.1, p2.2.1)
    unfold neD rcD at n
    unfold eqD
    dsimp only at n ⊢
    split at n
    · rename_i h
      rw [if_pos h]
      simp only [Option.some.injEq, PyData.bool.injEq, Bool.not_eq_false'] at n
      rw [n]
    · cases n
theorem mv_ok {r : Row} (R : RwOk r) (s : Small r) : RwOk (mvR r) := by
  have h1 := s.x
  have h2 := s.y
  exact ⟨⟨by show -1000 ≤ r.x + 9 ∧ r.x + 9 ≤ 1000; omega, by show -1000 ≤ r.y - 4 ∧ r.y - 4 ≤ 1000; omega, R.P.n, R.P.ok, R.P.t⟩, R.w, R.ok, R.n, R.s⟩
end
section
variable [Tbl]
section
variable {rs : List Row} (hn : rs.length ≤ 6) (ok : ∀ r ∈ rs, RwOk r)
include hn ok
theorem rr_1 (st : Sto) : forL (gN 2) d__law_rows_right_l1 [] (rs.map rowD) [some (.d (rowsD rs)), some (.r st.length), none, none, none, none, none, none, none, none, none, none, none] (st ++ [.lst []]) =
    .nx [some (.d (rowsD rs)), some (.r st.length), none, none, none, none, none, none, none, none, none, none, none] (st ++ [.lst ((recs rs).map rcD)]) := by
  have lp := forL_at (g := gN 2) (b := d__law_rows_right_l1) (fun _ => [some (.d (rowsD rs)), some (.r st.length), none, none, none, none, none, none, none, none, none, none, none]) (fun i => st ++ [.lst ((recs (rs.take i)).map rcD)]) (rs.map rowD) (fun i x hx => by
    rw [List.getElem?_map] at hx
    cases hr : rs[i]? with
    | none => rw [hr] at hx; cases hx
    | some r =>
      rw [hr] at hx
      cases hx
      have R := ok r (List.mem_of_getElem? hr)
      have es := fun st => r_stones_of R st
      refine ⟨_, rfl, ?_⟩
      show d__law_rows_right_l1 [some (.d (rowsD rs)), some (.r st.length), some (.d (rowD r)), none, none, none, none, none, none, none, none, none, none] _ = _
      generalize hst : (st ++ [Ob.lst ((recs (rs.take i)).map rcD)]) = st1
      have g1 : st1[st.length]? = some (.lst ((recs (rs.take i)).map rcD)) := by rw [← hst]; simp
      have la := recs_len (rs := rs.take i) fun r hr => ok r (List.mem_of_mem_take hr)
      have ll : (rs.take i).length ≤ 6 := by rw [List.length_take]; omega
      have rl := R.len
      have il := isLst_l g1
      have ex := extW_l (ys := (bxs r).map rcb) g1 (by rw [List.length_map, List.length_map]; omega)
      have sx : (recs (rs.take i)).map rcD ++ (bxs r).map rcb = (recs (rs.take (i + 1))).map rcD := by rw [recs_take hr, List.map_append, List.map_map]; rfl
      rw [sx, show st1.set st.length (.lst ((recs (rs.take (i + 1))).map rcD)) = st ++ [.lst ((recs (rs.take (i + 1))).map rcD)] from by rw [← hst]; simp] at ex
      generalize (recs (rs.take (i + 1))).map rcD = F2 at *
      generalize (bxs r).map rcb = BB at *
      generalize rowD r = RD at *
      generalize rowsD rs = RR at *
      unfold d__law_rows_right_l1
      simp -implicitDefEqProofs [es, il, ex, wipeE])
  rw [List.length_map, List.take_length, show recs (rs.take 0) = [] from rfl] at lp
  exact lp
theorem rr_3 (w1 w4 : Option Wv) {i : Nat} {r : Row} (hr : rs[i]? = some r) (st : Sto) : d__law_rows_right_l3 [some (.d (rowsD rs)), w1, some (.d (rowD r)), none, w4, some (.d (.int ((i : Int)))), none, none, none, none, none, none, none] st =
    .nx [some (.d (rowsD rs)), w1, none, none, w4, none, none, none, none, none, none, none, none] st := by
  have R := ok r (List.mem_of_getElem? hr)
  have es := fun st => r_stones_of R st
  have lp := forL_at (g := gTp (gCn (gN 6) (gCn (gN 3) gNl))) (b := d__law_rows_right_l2) (fun _ => [some (.d (rowsD rs)), w1, some (.d (rowD r)), none, w4, some (.d (.int ((i : Int)))), none, none, none, none, none, none, none]) (fun _ => st) (enumD ((bxs r).map rcb)) (fun s x hx => by
    unfold enumD at hx
    rw [List.getElem?_mapIdx, List.getElem?_map] at hx
    cases hb : (bxs r)[s]? with
    | none => rw [hb] at hx; cases hx
    | some b =>
      rw [hb] at hx
      cases hx
      obtain ⟨p, q, ea, le⟩ := at_first ok hr hb
      have ea := fun st => r_at_square hn ok ea st
      have gp := gt_pair p q i s
      rw [le] at gp
      have x0 : ixD (rcb b) (.int 0) = some (.int (rcB b).1) := rfl
      have x3 : ixD (rcb b) (.int 3) = some (.int (rcB b).2.2.2) := rfl
      refine ⟨_, rfl, ?_⟩
      show d__law_rows_right_l2 [some (.d (rowsD rs)), w1, some (.d (rowD r)), some (.d (rcb b)), w4, some (.d (.int ((i : Int)))), some (.d (.int ((s : Int)))), none, none, none, none, none, none] st = _
      generalize rcb b = BD at *
      generalize rowD r = RD at *
      generalize rowsD rs = RR at *
      unfold d__law_rows_right_l2
      simp -implicitDefEqProofs [x0, x3, ea, tupW, gp, wipeE])
  have ll : (enumD ((bxs r).map rcb)).length ≤ 1000000 := by have := R.len; simp [enumD]; omega
  have en : ∀ st, enumW [.d (.list ((bxs r).map rcb))] st = .ok ⟨enumD ((bxs r).map rcb), []⟩ st := fun _ => rfl
  generalize enumD ((bxs r).map rcb) = EE at *
  generalize (bxs r).map rcb = BB at *
  generalize rowD r = RD at *
  generalize rowsD rs = RR at *
  unfold d__law_rows_right_l3
  simp -implicitDefEqProofs [es, en, ll, lp, wipeE, -forL_cons]
end
theorem r_rows_right {rs : List Row} (hn : rs.length ≤ 6) (okS : ∀ r ∈ rs, RwOk r ∧ Small r) (st : Sto) : m__law_rows_right [.d (rowsD rs)] st = .ok (.d (.bool true)) st := by
  have ok : ∀ r ∈ rs, RwOk r := fun r hr => (okS r hr).1
  have mok : ∀ r ∈ rs.map mvR, RwOk r := fun r hr => by
    obtain ⟨q, hq, rfl⟩ := List.mem_map.mp hr
    exact mv_ok (okS q hq).1 (okS q hq).2
  have mn : (rs.map mvR).length ≤ 6 := by rw [List.length_map]; exact hn
  have l1 := rr_1 hn ok st
  have g1 : (st ++ [Ob.lst ((recs rs).map rcD)])[st.length]? = some (.lst ((recs rs).map rcD)) := by simp
  have lc := lcL_mapEL (g := gN 3) (c := eCall m__law_area (aCons (eVar 3) aNil)) (env := [some (.d (rowsD rs)), some (.r st.length), none, none, none, none, none, none, none, none, none, none, none]) (st := st ++ [.lst ((recs rs).map rcD)]) (lv := [(st.length, (recs rs).map rcD)]) (by rw [lvOk_one]; exact g1) rcD (fun q => .int (rA q)) (recs rs) [] (fun q hq => by
    have I := recs_in ok q hq
    have I1 := I.x0
    have I2 := I.x1
    have I3 := I.x
    have ea := fun st => r_law_area (b := q) (by omega) st
    refine ⟨_, rfl, ?_⟩
    show (eCall m__law_area (aCons (eVar 3) aNil)) [some (.d (rowsD rs)), some (.r st.length), none, some (.d (rcD q)), none, none, none, none, none, none, none, none, none] _ = _
    generalize rcD q = QD at *
    generalize rowsD rs = RR at *
    simp -implicitDefEqProofs [ea])
  rw [List.nil_append, show (recs rs).map (fun q => PyData.int (rA q)) = ((recs rs).map rA).map .int from by rw [List.map_map]; rfl] at lc
  have sr := srcW_l g1
  have sm := o_sum_l ((recs rs).map rA)
  have eo := fun st => r_first_over hn ok st
  have ea := fun st => r_area_of hn ok st
  have mo := fun st => r_first_over mn mok st
  have ma := fun st => r_area_of mn mok st
  rw [ov_mv] at mo
  rw [area_mv ok] at ma
  obtain ⟨o1, o2⟩ := over_area hn ok
  have oe := eq_ov rs
  have lp := forL_at (g := gTp (gCn (gN 5) (gCn (gN 2) gNl))) (b := d__law_rows_right_l3) (fun _ => [some (.d (rowsD rs)), some (.r st.length), none, none, some (.d (.int (((recs rs).map rA).sum))), none, none, none, none, none, none, none, none]) (fun _ => st ++ [.lst ((recs rs).map rcD)]) (enumD (rs.map rowD)) (fun i x hx => by
    unfold enumD at hx
    rw [List.getElem?_mapIdx, List.getElem?_map] at hx
    cases hr : rs[i]? with
    | none => rw [hr] at hx; cases hx
    | some r =>
      rw [hr] at hx
      cases hx
      exact ⟨_, rfl, rr_3 hn ok _ _ hr _⟩)
  have lm := lcL_mapE (g := gTp (gCn (gN 10) (gCn (gN 11) (gCn (gN 12) gNl)))) (c := eTup (aCons (eTup (aCons (eOp2 addD (eOp2 ixD (eVar 10) (eK (.int 0))) (eK (.int 9))) (aCons (eOp2 subD (eOp2 ixD (eVar 10) (eK (.int 1))) (eK (.int 4))) (aCons (eOp2 ixD (eVar 10) (eK (.int 2))) aNil)))) (aCons (eVar 11) (aCons (eVar 12) aNil)))) (env := [some (.d (rowsD rs)), some (.r st.length), none, none, some (.d (.int (((recs rs).map rA).sum))), none, none, none, none, none, none, none, none]) (st := st ++ [.lst ((recs rs).map rcD)]) rowD (fun r => rowD (mvR r)) rs [] (fun r _ => by
    have x0 : ixD (ptD r.x r.y r.lg) (.int 0) = some (.int r.x) := rfl
    have x1 : ixD (ptD r.x r.y r.lg) (.int 1) = some (.int r.y) := rfl
    have x2 : ixD (ptD r.x r.y r.lg) (.int 2) = some (.tuple (r.lg.map lgD)) := rfl
    have t1 : ∀ st, tupW [(.d (.int (r.x + 9))), (.d (.int (r.y - 4))), .d (.tuple (r.lg.map lgD))] st = .ok (.d (ptD (r.x + 9) (r.y - 4) r.lg)) st := fun _ => rfl
    have t2 : ∀ st, tupW [.d (ptD (r.x + 9) (r.y - 4) r.lg), (.d (.int (r.W))), .d (.tuple (r.laid.map stsD))] st = .ok (.d (rowD (mvR r))) st := fun _ => rfl
    refine ⟨_, rfl, ?_⟩
    show (eTup (aCons (eTup (aCons (eOp2 addD (eOp2 ixD (eVar 10) (eK (.int 0))) (eK (.int 9))) (aCons (eOp2 subD (eOp2 ixD (eVar 10) (eK (.int 1))) (eK (.int 4))) (aCons (eOp2 ixD (eVar 10) (eK (.int 2))) aNil)))) (aCons (eVar 11) (aCons (eVar 12) aNil)))) [some (.d (rowsD rs)), some (.r st.length), none, none, some (.d (.int (((recs rs).map rA).sum))), none, none, none, none, none, some (.d (ptD r.x r.y r.lg)), some (.d (.int (r.W))), some (.d (.tuple (r.laid.map stsD)))] _ = _
    generalize rowD (mvR r) = MD at *
    generalize ptD (r.x + 9) (r.y - 4) r.lg = P2 at *
    generalize ptD r.x r.y r.lg = PD at *
    generalize PyData.tuple (r.laid.map stsD) = LD at *
    generalize PyData.tuple (r.lg.map lgD) = LG at *
    generalize rowsD rs = RR at *
    simp -implicitDefEqProofs [x0, x1, x2, t1, t2])
  rw [List.nil_append, show rs.map (fun r => rowD (mvR r)) = (rs.map mvR).map rowD from by rw [List.map_map]; rfl] at lm
  have tm : tupF [.list ((rs.map mvR).map rowD)] = some (rowsD (rs.map mvR)) := rfl
  have lr : (rs.map rowD).length ≤ 1000000 := by rw [List.length_map]; omega
  have le : (enumD (rs.map rowD)).length ≤ 1000000 := by simp [enumD]; omega
  have l3 : ((recs rs).map rcD).length ≤ 1000000 := by have := recs_len ok; rw [List.length_map]; omega
  have l4 : (((recs rs).map rA).map PyData.int).length ≤ 1000000 := by have := recs_len ok; rw [List.length_map, List.length_map]; omega
  have l5 : ((rs.map mvR).map rowD).length ≤ 1000000 := by rw [List.length_map]; omega
  have en : ∀ st, enumW [.d (rowsD rs)] st = .ok ⟨enumD (rs.map rowD), []⟩ st := fun _ => rfl
  have sR : ∀ st, srcW (.d (rowsD rs)) st = .ok ⟨rs.map rowD, []⟩ st := fun _ => rfl
  have tk : (st ++ [Ob.lst ((recs rs).map rcD)]).take st.length = st := by simp
  generalize (rs.map mvR).map rowD = ML at *
  generalize rowsD (rs.map mvR) = MD at *
  generalize rowsD rs = RR at *
  generalize enumD (rs.map rowD) = EE at *
  generalize rs.map rowD = RL at *
  generalize (recs rs).map rcD = CL at *
  generalize areaF (recs rs) = AR at *
  generalize ((recs rs).map rA).sum = SU at *
  generalize ((recs rs).map rA).map PyData.int = AL at *
  generalize ovD (allB rs) = OD at *
  unfold m__law_rows_right d__law_rows_right
  simp -implicitDefEqProofs [newW, sR, lr, l1, sr, l3, lc, l4, sm, eo, ea, o1, o2, en, le, lp, lm, l5, tm, mo, ma, oe, tk, wipeE, -forL_cons]
end
section
variable [Tbl]
/-! ## the law -/
theorem r_joints {p : Nat} {st : Sto} (h : Pen p st) : ∃ (a b : Int) (st' : Sto), m__law_joints [.r p] st = .ok (.d (.tuple [.int a, .int b])) st' ∧ (0 ≤ a ∧ a ≤ b ∧ b ≤ 9) ∧ Pn p st st' := by
  obtain ⟨v1, st1, e1, a1, b1, c1⟩ := r_draw 10 h (by decide) (by decide)
  obtain ⟨v2, st2, e2, a2, b2, c2⟩ := r_draw 3 c1.pen (by decide) (by decide)
  obtain ⟨v3, st3, e3, a3, b3, c3⟩ := r_draw 2 c2.pen (by decide) (by decide)
  obtain ⟨low, hlow, el⟩ := atD_mem (xs := [PyData.int 0, .int 1, .int v1]) a2 (by simpa using b2)
  obtain ⟨low, rfl, l1, l2⟩ : ∃ u, low = .int u ∧ 0 ≤ u ∧ u ≤ 9 := by
    simp at hlow
    rcases hlow with rfl | rfl | rfl
    · exact ⟨_, rfl, by decide, by decide⟩
    · exact ⟨_, rfl, by decide, by decide⟩
    · exact ⟨_, rfl, by omega, by omega⟩
  generalize hmn : (if 10 - low < 3 then 10 - low else 3) = mn
  obtain ⟨w, hw, ew⟩ := atD_mem (xs := [PyData.int (10 - low), .int mn]) a3 (by simpa using b3)
  obtain ⟨w, rfl, w1, w2⟩ : ∃ u, w = .int u ∧ 0 < u ∧ u ≤ 10 - low := by
    have : 0 < mn ∧ mn ≤ 10 - low := by rw [← hmn]; split <;> omega
    simp at hw
    rcases hw with rfl | rfl
    · exact ⟨_, rfl, by omega, by omega⟩
    · exact ⟨_, rfl, this.1, this.2⟩
  obtain ⟨v4, st4, e4, a4, b4, c4⟩ := r_draw w c3.pen w1 (by omega)
  have c := ((c1.trans c2).trans c3).trans c4
  refine ⟨low, low + v4, st4, ?_, by omega, c⟩
  have t4 : st4.take st.length = st4 := by rw [← c.len]; simp
  unfold m__law_joints d__law_joints
  simp [e1, e2, e3, lstW, el, hmn, ew, e4, tupW, t4]
theorem gaps_sym (r o : Row) (g : Int) (h : g ∈ gaps r o) : g ∈ gaps o r := by
  obtain ⟨a, ha, b, hb, rfl⟩ := gaps_mem.mp h
  exact gaps_mem.mpr ⟨b, hb, a, ha, gap_sym _ _⟩
/-- rows apart: what lies over one another lies in one row -/
theorem apart_over {r o : Row} {m : Int} (h : ∀ g ∈ gaps r o, m ≤ g) (hm : 0 < m) : ovD (allB [r, o]) = .none ∨ ∃ i s t : Int, ovD (allB [r, o]) = .tuple [.int i, .int s, .int i, .int t] := by
  cases q : ovR (allB [r, o]) with
  | none => left; unfold ovD; rw [q]
  | some x =>
    obtain ⟨p, hp, p2, hp2, hc, rfl⟩ := ov_cov q
    right
    refine ⟨p.1, p.2.1, p2.2.1, ?_⟩
    have e : p2.1 = p.1 := by
      obtain ⟨r1, h1, b1⟩ := nb_at hp
      obtain ⟨r2, h2, b2⟩ := nb_at hp2
      have l1 := (List.getElem?_eq_some_iff.mp h1).1
      have l2 := (List.getElem?_eq_some_iff.mp h2).1
      simp only [List.length_cons, List.length_nil] at l1 l2
      have m1 := List.mem_of_getElem? b1
      have m2 := List.mem_of_getElem? b2
      have z := gap_cov hc
      rcases (show p.1 = 0 ∨ p.1 = 1 by omega) with u | u <;> rcases (show p2.1 = 0 ∨ p2.1 = 1 by omega) with v | v <;> rw [u] at h1 ⊢ <;> rw [v] at h2 ⊢
      · cases h1; cases h2
        have := h _ (gaps_mem.mpr ⟨_, m1, _, m2, rfl⟩)
        omega
      · cases h1; cases h2
        have := h _ (gaps_mem.mpr ⟨_, m2, _, m1, rfl⟩)
        rw [gap_sym] at this
        omega
    unfold ovD
    rw [q, e]
theorem t_other {rs : List Row} {r o : Row} (R : RwOk r) (O : RwOk o) (h0 : rs[0]? = some r) (v0 v1 v2 v4 : Option Wv) (st : Sto) : d_law_l1 [v0, v1, v2, some (.d (rowsD rs)), v4, some (.d (rowD o)), none, none, none, none] st = .nx [v0, v1, v2, some (.d (rowsD rs)), v4, none, none, none, none, none] st := by
  obtain ⟨m, e1, m1, m2⟩ := r_apart R O
  obtain ⟨n, e2, n1, n2⟩ := r_apart O R
  have mn : n = m := Int.le_antisymm (n2 _ (gaps_sym _ _ _ m1)) (m2 _ (gaps_sym _ _ _ n1))
  subst mn
  have x0 : ixD (rowsD rs) (.int 0) = some (rowD r) := by
    show atD (rs.map rowD) 0 = _
    rw [show (0 : Int) = ((0 : Nat) : Int) from rfl, atD_nat, List.getElem?_map, h0]; rfl
  have tw : ∀ st, tupW [.d (rowD r), .d (rowD o)] st = .ok (.d (rowsD [r, o])) st := fun _ => rfl
  have eo := fun st => r_first_over (rs := [r, o]) (by simp) (fun x hx => by
    rcases List.mem_cons.mp hx with rfl | hx
    · exact R
    · rw [List.mem_singleton.mp hx]; exact O) st
  by_cases hm : 0 < n
  · rcases apart_over m2 hm with q | ⟨i, s, t, q⟩
    · rw [q] at eo
      generalize rowsD [r, o] = RO at *
      generalize rowD r = R1 at *
      generalize rowD o = R2 at *
      generalize rowsD rs = RR at *
      unfold d_law_l1
      simp -implicitDefEqProofs [x0, e1, e2, hm, tw, eo, wipeE]
    · rw [q] at eo
      have y0 : ixD (.tuple [.int i, .int s, .int i, .int t]) (.int 0) = some (.int i) := rfl
      have y2 : ixD (.tuple [.int i, .int s, .int i, .int t]) (.int 2) = some (.int i) := rfl
      generalize rowsD [r, o] = RO at *
      generalize rowD r = R1 at *
      generalize rowD o = R2 at *
      generalize rowsD rs = RR at *
      unfold d_law_l1
      simp -implicitDefEqProofs [x0, e1, e2, hm, tw, eo, y0, y2, wipeE]
  · generalize rowD r = R1 at *
    generalize rowD o = R2 at *
    generalize rowsD rs = RR at *
    unfold d_law_l1
    simp -implicitDefEqProofs [x0, e1, e2, hm, wipeE]
theorem cell (sc : Wv) (c : Int) (st : Sto) : ∃ st', d_law_l2 [some sc, some (.d (.int (c))), none, none, none, none, none, none, none, none] st = .nx [some sc, none, none, none, none, none, none, none, none, none] st' := by
  obtain ⟨x1, x2, x3, e1⟩ := r_pen_of c st
  have hp : Pen st.length (st ++ [Ob.lst [.int x1, .int x2, .int x3]]) := ⟨x1, x2, x3, by simp⟩
  obtain ⟨n, st1, e2, n0, n4, c1⟩ := r_draw 4 hp (by decide) (by decide)
  obtain ⟨n, rfl⟩ := Int.eq_ofNat_of_zero_le n0
  obtain ⟨rs, st2, e3, c2', hl, hq⟩ := lcL_penE (g := gN 8) (c := eCall m__law_row (aCons (eVar 2) aNil)) (env := [some sc, some (.d (.int (c))), some (.r st.length), none, none, none, none, none, none, none]) (p := st.length) (fun i : Nat => PyData.int (0 + (i : Int))) rowD (fun _ r => RwOk r ∧ Small r) (List.range (n + 1)) [] st1 c1.pen (fun i _ st hp => by
    obtain ⟨r, st', e, R, s, c1⟩ := r_law_row hp
    refine ⟨_, r, st', rfl, ?_, ⟨R, s⟩, c1⟩
    show (eCall m__law_row (aCons (eVar 2) aNil)) [some sc, some (.d (.int (c))), some (.r _), none, none, none, none, none, some (.d (.int (0 + (i : Int)))), none] st = _
    generalize rowD r = RD at *
    simp -implicitDefEqProofs [e])
  rw [List.nil_append, show (List.range (n + 1)).map (fun i : Nat => PyData.int (0 + (i : Int))) = rangeD 0 (n + 1) from rfl] at e3
  rw [List.length_range] at hl
  have hn : rs.length ≤ 6 := by omega
  have okS : ∀ r ∈ rs, RwOk r ∧ Small r := fun r hr => by
    obtain ⟨i, hi, rfl⟩ := List.getElem_of_mem hr
    obtain ⟨y, ey, q⟩ := hq i i (by rw [List.getElem?_range (by omega)])
    rw [List.getElem?_eq_getElem hi] at ey
    cases ey
    exact q
  have ok : ∀ r ∈ rs, RwOk r := fun r hr => (okS r hr).1
  obtain ⟨a, b, st3, e4, J, c3⟩ := r_joints c2'.pen
  have la := lcL_mapE (g := gN 9) (c := eAnd2 (eCall m_is_row (aCons (eVar 9) aNil)) (eCall m__law_one_right (aCons (eVar 9) (aCons (eVar 4) aNil)))) (env := [some sc, some (.d (.int (c))), some (.r st.length), some (.d (rowsD rs)), some (.d (.tuple [.int a, .int b])), none, none, none, none, none]) (st := st3) rowD (fun _ => .bool true) rs [] (fun r hr => by
    have i1 := fun st => r_is_row (ok r hr) st
    have i2 := fun st => r_one_right (ok r hr) J st
    refine ⟨_, rfl, ?_⟩
    show (eAnd2 (eCall m_is_row (aCons (eVar 9) aNil)) (eCall m__law_one_right (aCons (eVar 9) (aCons (eVar 4) aNil)))) [some sc, some (.d (.int (c))), some (.r st.length), some (.d (rowsD rs)), some (.d (.tuple [.int a, .int b])), none, none, none, none, some (.d (rowD r))] _ = _
    generalize rowD r = RD at *
    generalize PyData.tuple [.int a, .int b] = JD at *
    generalize rowsD rs = RR at *
    simp -implicitDefEqProofs [i1, i2])
  rw [List.nil_append] at la
  have oa := o_all' rs fun _ => true
  rw [show (rs.all fun _ => true) = true by simp] at oa
  have rr := fun st => r_rows_right hn okS st
  obtain ⟨r0, h0⟩ : ∃ r, rs[0]? = some r := ⟨rs[0], List.getElem?_eq_getElem (by omega)⟩
  have lp := forL_at (g := gN 5) (b := d_law_l1) (fun _ => [some sc, some (.d (.int (c))), some (.r st.length), some (.d (rowsD rs)), some (.d (.tuple [.int a, .int b])), none, none, none, none, none]) (fun _ => st3) ((rs.drop 1).map rowD) (fun i x hx => by
    rw [List.getElem?_map] at hx
    cases hr : (rs.drop 1)[i]? with
    | none => rw [hr] at hx; cases hx
    | some o =>
      rw [hr] at hx
      cases hx
      exact ⟨_, rfl, t_other (ok r0 (List.mem_of_getElem? h0)) (ok o (List.mem_of_mem_drop (List.mem_of_getElem? hr))) h0 _ _ _ _ _⟩)
  have sl : slD (some 1) none (rowsD rs) = some (.tuple ((rs.drop 1).map rowD)) := by
    show some (PyData.tuple (cutD (rs.map rowD) (some 1) none)) = _
    rw [show (1 : Int) = ((1 : Nat) : Int) from rfl, cutD_drop, List.map_drop]
  have rg := rg1_ok (i := 1 + (n : Int)) st1 (by omega) (by omega)
  rw [show ((1 + (n : Int)).toNat) = n + 1 by omega] at rg
  have lz : (rangeD 0 (n + 1)).length ≤ 1000000 := by rw [rangeD_len]; omega
  have l2 : (rs.map rowD).length ≤ 1000000 := by rw [List.length_map]; omega
  have l3 : (rs.map fun _ => PyData.bool true).length ≤ 1000000 := by rw [List.length_map]; omega
  have l4 : ((rs.drop 1).map rowD).length ≤ 1000000 := by rw [List.length_map, List.length_drop]; omega
  have tl : tupF [.list (rs.map rowD)] = some (rowsD rs) := rfl
  have sR : ∀ st, srcW (.d (rowsD rs)) st = .ok ⟨rs.map rowD, []⟩ st := fun _ => rfl
  refine ⟨st3, ?_⟩
  generalize (rs.drop 1).map rowD = DL at *
  generalize (rs.map fun _ => PyData.bool true) = BL at *
  generalize rowsD rs = RR at *
  generalize rs.map rowD = RL at *
  generalize PyData.tuple [.int a, .int b] = JD at *
  generalize rangeD 0 (n + 1) = RG at *
  unfold d_law_l2
  simp -implicitDefEqProofs [e1, e2, rg, lz, e3, l2, tl, e4, sR, la, l3, oa, rr, sl, srcW_dt, l4, lp, wipeE, -forL_cons]
theorem law_ok (ns : List Int) (h : ns.length ≤ 63) : ∃ st, m_law [.d (.list (ns.map .int))] [] = .ok (.d (.bool true)) st :=
  outer_w (n := 8) (K := 2) (body := d_law_l2) (fun sc c st => cell sc c st) ns h
end
theorem all_mk [Tbl] {P : Program} {w : World} {K : Frg} {h : Heap} {mg : Str → Option Value} {fa : Addr} (X : K.In h) (G : h.Ns mainGlobals mg) (hfa : mg "law" = some (.ref fa))
    {f_0 : Addr} {od_0 an_0 : Option Addr} {sl_0 : Array (Option Value)} {oc_0 kV_0 dc_0 pm_0 cd_0 ct_0 : Value}
    {f_1 : Addr} {od_1 an_1 : Option Addr} {sl_1 : Array (Option Value)} {oc_1 kV_1 dc_1 pm_1 cd_1 ct_1 : Value}
    {f_2 : Addr} {od_2 an_2 : Option Addr} {sl_2 : Array (Option Value)} {oc_2 kV_2 dc_2 pm_2 cd_2 ct_2 : Value}
    {f_3 : Addr} {od_3 an_3 : Option Addr} {sl_3 : Array (Option Value)} {oc_3 kV_3 dc_3 pm_3 cd_3 ct_3 : Value}
    {f_4 : Addr} {od_4 an_4 : Option Addr} {sl_4 : Array (Option Value)} {oc_4 kV_4 dc_4 pm_4 cd_4 ct_4 : Value}
    {f_5 : Addr} {od_5 an_5 : Option Addr} {sl_5 : Array (Option Value)} {oc_5 kV_5 dc_5 pm_5 cd_5 ct_5 : Value}
    {f_6 : Addr} {od_6 an_6 : Option Addr} {sl_6 : Array (Option Value)} {oc_6 kV_6 dc_6 pm_6 cd_6 ct_6 : Value}
    {f_7 : Addr} {od_7 an_7 : Option Addr} {sl_7 : Array (Option Value)} {oc_7 kV_7 dc_7 pm_7 cd_7 ct_7 : Value}
    {f_8 : Addr} {od_8 an_8 : Option Addr} {sl_8 : Array (Option Value)} {oc_8 kV_8 dc_8 pm_8 cd_8 ct_8 : Value}
    {f_9 : Addr} {od_9 an_9 : Option Addr} {sl_9 : Array (Option Value)} {oc_9 kV_9 dc_9 pm_9 cd_9 ct_9 : Value}
    {f_10 : Addr} {od_10 an_10 : Option Addr} {sl_10 : Array (Option Value)} {oc_10 kV_10 dc_10 pm_10 cd_10 ct_10 : Value}
    {f_11 : Addr} {od_11 an_11 : Option Addr} {sl_11 : Array (Option Value)} {oc_11 kV_11 dc_11 pm_11 cd_11 ct_11 : Value}
    {f_12 : Addr} {od_12 an_12 : Option Addr} {sl_12 : Array (Option Value)} {oc_12 kV_12 dc_12 pm_12 cd_12 ct_12 : Value}
    {f_13 : Addr} {od_13 an_13 : Option Addr} {sl_13 : Array (Option Value)} {oc_13 kV_13 dc_13 pm_13 cd_13 ct_13 : Value}
    {f_14 : Addr} {od_14 an_14 : Option Addr} {sl_14 : Array (Option Value)} {oc_14 kV_14 dc_14 pm_14 cd_14 ct_14 : Value}
    {f_15 : Addr} {od_15 an_15 : Option Addr} {sl_15 : Array (Option Value)} {oc_15 kV_15 dc_15 pm_15 cd_15 ct_15 : Value}
    {f_16 : Addr} {od_16 an_16 : Option Addr} {sl_16 : Array (Option Value)} {oc_16 kV_16 dc_16 pm_16 cd_16 ct_16 : Value}
    {f_17 : Addr} {od_17 an_17 : Option Addr} {sl_17 : Array (Option Value)} {oc_17 kV_17 dc_17 pm_17 cd_17 ct_17 : Value}
    {f_18 : Addr} {od_18 an_18 : Option Addr} {sl_18 : Array (Option Value)} {oc_18 kV_18 dc_18 pm_18 cd_18 ct_18 : Value}
    {f_19 : Addr} {od_19 an_19 : Option Addr} {sl_19 : Array (Option Value)} {oc_19 kV_19 dc_19 pm_19 cd_19 ct_19 : Value}
    {f_20 : Addr} {od_20 an_20 : Option Addr} {sl_20 : Array (Option Value)} {oc_20 kV_20 dc_20 pm_20 cd_20 ct_20 : Value}
    {f_21 : Addr} {od_21 an_21 : Option Addr} {sl_21 : Array (Option Value)} {oc_21 kV_21 dc_21 pm_21 cd_21 ct_21 : Value}
    {f_22 : Addr} {od_22 an_22 : Option Addr} {sl_22 : Array (Option Value)} {oc_22 kV_22 dc_22 pm_22 cd_22 ct_22 : Value}
    {f_23 : Addr} {od_23 an_23 : Option Addr} {sl_23 : Array (Option Value)} {oc_23 kV_23 dc_23 pm_23 cd_23 ct_23 : Value}
    {f_24 : Addr} {od_24 an_24 : Option Addr} {sl_24 : Array (Option Value)} {oc_24 kV_24 dc_24 pm_24 cd_24 ct_24 : Value}
    {f_25 : Addr} {od_25 an_25 : Option Addr} {sl_25 : Array (Option Value)} {oc_25 kV_25 dc_25 pm_25 cd_25 ct_25 : Value}
    {f_26 : Addr} {od_26 an_26 : Option Addr} {sl_26 : Array (Option Value)} {oc_26 kV_26 dc_26 pm_26 cd_26 ct_26 : Value}
    {f_27 : Addr} {od_27 an_27 : Option Addr} {sl_27 : Array (Option Value)} {oc_27 kV_27 dc_27 pm_27 cd_27 ct_27 : Value}
    {f_28 : Addr} {od_28 an_28 : Option Addr} {sl_28 : Array (Option Value)} {oc_28 kV_28 dc_28 pm_28 cd_28 ct_28 : Value}
    {f_29 : Addr} {od_29 an_29 : Option Addr} {sl_29 : Array (Option Value)} {oc_29 kV_29 dc_29 pm_29 cd_29 ct_29 : Value}
    {f_30 : Addr} {od_30 an_30 : Option Addr} {sl_30 : Array (Option Value)} {oc_30 kV_30 dc_30 pm_30 cd_30 ct_30 : Value}
    {f_31 : Addr} {od_31 an_31 : Option Addr} {sl_31 : Array (Option Value)} {oc_31 kV_31 dc_31 pm_31 cd_31 ct_31 : Value}
    {f_32 : Addr} {od_32 an_32 : Option Addr} {sl_32 : Array (Option Value)} {oc_32 kV_32 dc_32 pm_32 cd_32 ct_32 : Value}
    {f_33 : Addr} {od_33 an_33 : Option Addr} {sl_33 : Array (Option Value)} {oc_33 kV_33 dc_33 pm_33 cd_33 ct_33 : Value}
    {f_34 : Addr} {od_34 an_34 : Option Addr} {sl_34 : Array (Option Value)} {oc_34 kV_34 dc_34 pm_34 cd_34 ct_34 : Value}
    {f_35 : Addr} {od_35 an_35 : Option Addr} {sl_35 : Array (Option Value)} {oc_35 kV_35 dc_35 pm_35 cd_35 ct_35 : Value}
    {f_36 : Addr} {od_36 an_36 : Option Addr} {sl_36 : Array (Option Value)} {oc_36 kV_36 dc_36 pm_36 cd_36 ct_36 : Value}
    {f_37 : Addr} {od_37 an_37 : Option Addr} {sl_37 : Array (Option Value)} {oc_37 kV_37 dc_37 pm_37 cd_37 ct_37 : Value}
    {f_38 : Addr} {od_38 an_38 : Option Addr} {sl_38 : Array (Option Value)} {oc_38 kV_38 dc_38 pm_38 cd_38 ct_38 : Value}
    {f_39 : Addr} {od_39 an_39 : Option Addr} {sl_39 : Array (Option Value)} {oc_39 kV_39 dc_39 pm_39 cd_39 ct_39 : Value}
    {f_40 : Addr} {od_40 an_40 : Option Addr} {sl_40 : Array (Option Value)} {oc_40 kV_40 dc_40 pm_40 cd_40 ct_40 : Value}
    {f_41 : Addr} {od_41 an_41 : Option Addr} {sl_41 : Array (Option Value)} {oc_41 kV_41 dc_41 pm_41 cd_41 ct_41 : Value}
    {f_42 : Addr} {od_42 an_42 : Option Addr} {sl_42 : Array (Option Value)} {oc_42 kV_42 dc_42 pm_42 cd_42 ct_42 : Value}
    {f_43 : Addr} {od_43 an_43 : Option Addr} {sl_43 : Array (Option Value)} {oc_43 kV_43 dc_43 pm_43 cd_43 ct_43 : Value}
    {f_44 : Addr} {od_44 an_44 : Option Addr} {sl_44 : Array (Option Value)} {oc_44 kV_44 dc_44 pm_44 cd_44 ct_44 : Value}
    {f_45 : Addr} {od_45 an_45 : Option Addr} {sl_45 : Array (Option Value)} {oc_45 kV_45 dc_45 pm_45 cd_45 ct_45 : Value}
    {f_46 : Addr} {od_46 an_46 : Option Addr} {sl_46 : Array (Option Value)} {oc_46 kV_46 dc_46 pm_46 cd_46 ct_46 : Value}
    {f_47 : Addr} {od_47 an_47 : Option Addr} {sl_47 : Array (Option Value)} {oc_47 kV_47 dc_47 pm_47 cd_47 ct_47 : Value}
    {f_48 : Addr} {od_48 an_48 : Option Addr} {sl_48 : Array (Option Value)} {oc_48 kV_48 dc_48 pm_48 cd_48 ct_48 : Value}
    {f_49 : Addr} {od_49 an_49 : Option Addr} {sl_49 : Array (Option Value)} {oc_49 kV_49 dc_49 pm_49 cd_49 ct_49 : Value}
    {f_50 : Addr} {od_50 an_50 : Option Addr} {sl_50 : Array (Option Value)} {oc_50 kV_50 dc_50 pm_50 cd_50 ct_50 : Value}
    {f_51 : Addr} {od_51 an_51 : Option Addr} {sl_51 : Array (Option Value)} {oc_51 kV_51 dc_51 pm_51 cd_51 ct_51 : Value}
    {f_52 : Addr} {od_52 an_52 : Option Addr} {sl_52 : Array (Option Value)} {oc_52 kV_52 dc_52 pm_52 cd_52 ct_52 : Value}
    {f_53 : Addr} {od_53 an_53 : Option Addr} {sl_53 : Array (Option Value)} {oc_53 kV_53 dc_53 pm_53 cd_53 ct_53 : Value}
    {f_54 : Addr} {od_54 an_54 : Option Addr} {sl_54 : Array (Option Value)} {oc_54 kV_54 dc_54 pm_54 cd_54 ct_54 : Value}
    {f_55 : Addr} {od_55 an_55 : Option Addr} {sl_55 : Array (Option Value)} {oc_55 kV_55 dc_55 pm_55 cd_55 ct_55 : Value}
    {f_56 : Addr} {od_56 an_56 : Option Addr} {sl_56 : Array (Option Value)} {oc_56 kV_56 dc_56 pm_56 cd_56 ct_56 : Value}
    {f_57 : Addr} {od_57 an_57 : Option Addr} {sl_57 : Array (Option Value)} {oc_57 kV_57 dc_57 pm_57 cd_57 ct_57 : Value}
    {f_58 : Addr} {od_58 an_58 : Option Addr} {sl_58 : Array (Option Value)} {oc_58 kV_58 dc_58 pm_58 cd_58 ct_58 : Value}
    {f_59 : Addr} {od_59 an_59 : Option Addr} {sl_59 : Array (Option Value)} {oc_59 kV_59 dc_59 pm_59 cd_59 ct_59 : Value}
    {f_60 : Addr} {od_60 an_60 : Option Addr} {sl_60 : Array (Option Value)} {oc_60 kV_60 dc_60 pm_60 cd_60 ct_60 : Value}
    {t_MOST_FAR : Tok}
    {t_MOST_JOINT : Tok}
    {t_MOST_LEGS : Tok}
    {t_MOST_LONG : Tok}
    {t_MOST_ROWS : Tok}
    {t_MOST_SPAN : Tok}
    {t_MOST_STONE : Tok}
    {t_MOST_STONES : Tok}
    {t_MOST_WIDTH : Tok}
    {t_STEPS_0_0 : Tok}
    {t_STEPS_0_1 : Tok}
    {p_STEPS_0 : Addr} {n_STEPS_0 : Nat} {sl_STEPS_0 : Array (Option Value)}
    {t_STEPS_1_0 : Tok}
    {t_STEPS_1_1 : Tok}
    {p_STEPS_1 : Addr} {n_STEPS_1 : Nat} {sl_STEPS_1 : Array (Option Value)}
    {t_STEPS_2_0 : Tok}
    {t_STEPS_2_1 : Tok}
    {p_STEPS_2 : Addr} {n_STEPS_2 : Nat} {sl_STEPS_2 : Array (Option Value)}
    {t_STEPS_3_0 : Tok}
    {t_STEPS_3_1 : Tok}
    {p_STEPS_3 : Addr} {n_STEPS_3 : Nat} {sl_STEPS_3 : Array (Option Value)}
    {p_STEPS : Addr} {n_STEPS : Nat} {sl_STEPS : Array (Option Value)}
    {t_WAYS_0 : Tok}
    {t_WAYS_1 : Tok}
    {t_WAYS_2 : Tok}
    {t_WAYS_3 : Tok}
    {p_WAYS : Addr} {n_WAYS : Nat} {sl_WAYS : Array (Option Value)}
    (a_0 : PySem.W.nsIn K mainGlobals "_law_pen_of" = some (some (.ref f_0)))
    (l_0 : K.lookup f_0 = some ⟨oc_0, od_0, .func (PySem.W.fnOf "_law_pen_of" "_law_pen_of" (defArgs s__law_pen_of) (defBody s__law_pen_of) (defScope s__law_pen_of) .none kV_0 dc_0 pm_0 an_0 cd_0 ct_0), sl_0⟩)
    (c_0 : PySem.W.codeIn K cd_0 "_law_pen_of" = true)
    (k_0 : PySem.W.keepIn K (.ref f_0) = true)
    (a_1 : PySem.W.nsIn K mainGlobals "_law_next" = some (some (.ref f_1)))
    (l_1 : K.lookup f_1 = some ⟨oc_1, od_1, .func (PySem.W.fnOf "_law_next" "_law_next" (defArgs s__law_next) (defBody s__law_next) (defScope s__law_next) .none kV_1 dc_1 pm_1 an_1 cd_1 ct_1), sl_1⟩)
    (c_1 : PySem.W.codeIn K cd_1 "_law_next" = true)
    (k_1 : PySem.W.keepIn K (.ref f_1) = true)
    (a_2 : PySem.W.nsIn K mainGlobals "_law_draw" = some (some (.ref f_2)))
    (l_2 : K.lookup f_2 = some ⟨oc_2, od_2, .func (PySem.W.fnOf "_law_draw" "_law_draw" (defArgs s__law_draw) (defBody s__law_draw) (defScope s__law_draw) .none kV_2 dc_2 pm_2 an_2 cd_2 ct_2), sl_2⟩)
    (c_2 : PySem.W.codeIn K cd_2 "_law_draw" = true)
    (k_2 : PySem.W.keepIn K (.ref f_2) = true)
    (a_3 : PySem.W.nsIn K mainGlobals "_law_joints" = some (some (.ref f_3)))
    (l_3 : K.lookup f_3 = some ⟨oc_3, od_3, .func (PySem.W.fnOf "_law_joints" "_law_joints" (defArgs s__law_joints) (defBody s__law_joints) (defScope s__law_joints) .none kV_3 dc_3 pm_3 an_3 cd_3 ct_3), sl_3⟩)
    (c_3 : PySem.W.codeIn K cd_3 "_law_joints" = true)
    (k_3 : PySem.W.keepIn K (.ref f_3) = true)
    (a_4 : PySem.W.nsIn K mainGlobals "_law_cell_at" = some (some (.ref f_4)))
    (l_4 : K.lookup f_4 = some ⟨oc_4, od_4, .func (PySem.W.fnOf "_law_cell_at" "_law_cell_at" (defArgs s__law_cell_at) (defBody s__law_cell_at) (defScope s__law_cell_at) .none kV_4 dc_4 pm_4 an_4 cd_4 ct_4), sl_4⟩)
    (c_4 : PySem.W.codeIn K cd_4 "_law_cell_at" = true)
    (k_4 : PySem.W.keepIn K (.ref f_4) = true)
    (a_5 : PySem.W.nsIn K mainGlobals "quarter" = some (some (.ref f_5)))
    (l_5 : K.lookup f_5 = some ⟨oc_5, od_5, .func (PySem.W.fnOf "quarter" "quarter" (defArgs s_quarter) (defBody s_quarter) (defScope s_quarter) .none kV_5 dc_5 pm_5 an_5 cd_5 ct_5), sl_5⟩)
    (c_5 : PySem.W.codeIn K cd_5 "quarter" = true)
    (k_5 : PySem.W.keepIn K (.ref f_5) = true)
    (a_6 : PySem.W.nsIn K mainGlobals "bend_sides" = some (some (.ref f_6)))
    (l_6 : K.lookup f_6 = some ⟨oc_6, od_6, .func (PySem.W.fnOf "bend_sides" "bend_sides" (defArgs s_bend_sides) (defBody s_bend_sides) (defScope s_bend_sides) .none kV_6 dc_6 pm_6 an_6 cd_6 ct_6), sl_6⟩)
    (c_6 : PySem.W.codeIn K cd_6 "bend_sides" = true)
    (k_6 : PySem.W.keepIn K (.ref f_6) = true)
    (a_7 : PySem.W.nsIn K mainGlobals "gone" = some (some (.ref f_7)))
    (l_7 : K.lookup f_7 = some ⟨oc_7, od_7, .func (PySem.W.fnOf "gone" "gone" (defArgs s_gone) (defBody s_gone) (defScope s_gone) .none kV_7 dc_7 pm_7 an_7 cd_7 ct_7), sl_7⟩)
    (c_7 : PySem.W.codeIn K cd_7 "gone" = true)
    (k_7 : PySem.W.keepIn K (.ref f_7) = true)
    (a_8 : PySem.W.nsIn K mainGlobals "leg_points" = some (some (.ref f_8)))
    (l_8 : K.lookup f_8 = some ⟨oc_8, od_8, .func (PySem.W.fnOf "leg_points" "leg_points" (defArgs s_leg_points) (defBody s_leg_points) (defScope s_leg_points) .none kV_8 dc_8 pm_8 an_8 cd_8 ct_8), sl_8⟩)
    (c_8 : PySem.W.codeIn K cd_8 "leg_points" = true)
    (k_8 : PySem.W.keepIn K (.ref f_8) = true)
    (a_9 : PySem.W.nsIn K mainGlobals "strips_by" = some (some (.ref f_9)))
    (l_9 : K.lookup f_9 = some ⟨oc_9, od_9, .func (PySem.W.fnOf "strips_by" "strips_by" (defArgs s_strips_by) (defBody s_strips_by) (defScope s_strips_by) .none kV_9 dc_9 pm_9 an_9 cd_9 ct_9), sl_9⟩)
    (c_9 : PySem.W.codeIn K cd_9 "strips_by" = true)
    (k_9 : PySem.W.keepIn K (.ref f_9) = true)
    (a_10 : PySem.W.nsIn K mainGlobals "is_whole" = some (some (.ref f_10)))
    (l_10 : K.lookup f_10 = some ⟨oc_10, od_10, .func (PySem.W.fnOf "is_whole" "is_whole" (defArgs s_is_whole) (defBody s_is_whole) (defScope s_is_whole) .none kV_10 dc_10 pm_10 an_10 cd_10 ct_10), sl_10⟩)
    (c_10 : PySem.W.codeIn K cd_10 "is_whole" = true)
    (k_10 : PySem.W.keepIn K (.ref f_10) = true)
    (a_11 : PySem.W.nsIn K mainGlobals "is_from_to" = some (some (.ref f_11)))
    (l_11 : K.lookup f_11 = some ⟨oc_11, od_11, .func (PySem.W.fnOf "is_from_to" "is_from_to" (defArgs s_is_from_to) (defBody s_is_from_to) (defScope s_is_from_to) .none kV_11 dc_11 pm_11 an_11 cd_11 ct_11), sl_11⟩)
    (c_11 : PySem.W.codeIn K cd_11 "is_from_to" = true)
    (k_11 : PySem.W.keepIn K (.ref f_11) = true)
    (a_12 : PySem.W.nsIn K mainGlobals "is_leg" = some (some (.ref f_12)))
    (l_12 : K.lookup f_12 = some ⟨oc_12, od_12, .func (PySem.W.fnOf "is_leg" "is_leg" (defArgs s_is_leg) (defBody s_is_leg) (defScope s_is_leg) .none kV_12 dc_12 pm_12 an_12 cd_12 ct_12), sl_12⟩)
    (c_12 : PySem.W.codeIn K cd_12 "is_leg" = true)
    (k_12 : PySem.W.keepIn K (.ref f_12) = true)
    (a_13 : PySem.W.nsIn K mainGlobals "is_path" = some (some (.ref f_13)))
    (l_13 : K.lookup f_13 = some ⟨oc_13, od_13, .func (PySem.W.fnOf "is_path" "is_path" (defArgs s_is_path) (defBody s_is_path) (defScope s_is_path) .none kV_13 dc_13 pm_13 an_13 cd_13 ct_13), sl_13⟩)
    (c_13 : PySem.W.codeIn K cd_13 "is_path" = true)
    (k_13 : PySem.W.keepIn K (.ref f_13) = true)
    (a_14 : PySem.W.nsIn K mainGlobals "strips_or_none" = some (some (.ref f_14)))
    (l_14 : K.lookup f_14 = some ⟨oc_14, od_14, .func (PySem.W.fnOf "strips_or_none" "strips_or_none" (defArgs s_strips_or_none) (defBody s_strips_or_none) (defScope s_strips_or_none) .none kV_14 dc_14 pm_14 an_14 cd_14 ct_14), sl_14⟩)
    (c_14 : PySem.W.codeIn K cd_14 "strips_or_none" = true)
    (k_14 : PySem.W.keepIn K (.ref f_14) = true)
    (a_15 : PySem.W.nsIn K mainGlobals "are_stones" = some (some (.ref f_15)))
    (l_15 : K.lookup f_15 = some ⟨oc_15, od_15, .func (PySem.W.fnOf "are_stones" "are_stones" (defArgs s_are_stones) (defBody s_are_stones) (defScope s_are_stones) .none kV_15 dc_15 pm_15 an_15 cd_15 ct_15), sl_15⟩)
    (c_15 : PySem.W.codeIn K cd_15 "are_stones" = true)
    (k_15 : PySem.W.keepIn K (.ref f_15) = true)
    (a_16 : PySem.W.nsIn K mainGlobals "is_row" = some (some (.ref f_16)))
    (l_16 : K.lookup f_16 = some ⟨oc_16, od_16, .func (PySem.W.fnOf "is_row" "is_row" (defArgs s_is_row) (defBody s_is_row) (defScope s_is_row) .none kV_16 dc_16 pm_16 an_16 cd_16 ct_16), sl_16⟩)
    (c_16 : PySem.W.codeIn K cd_16 "is_row" = true)
    (k_16 : PySem.W.keepIn K (.ref f_16) = true)
    (a_17 : PySem.W.nsIn K mainGlobals "need_row" = some (some (.ref f_17)))
    (l_17 : K.lookup f_17 = some ⟨oc_17, od_17, .func (PySem.W.fnOf "need_row" "need_row" (defArgs s_need_row) (defBody s_need_row) (defScope s_need_row) .none kV_17 dc_17 pm_17 an_17 cd_17 ct_17), sl_17⟩)
    (c_17 : PySem.W.codeIn K cd_17 "need_row" = true)
    (k_17 : PySem.W.keepIn K (.ref f_17) = true)
    (a_18 : PySem.W.nsIn K mainGlobals "rectangle" = some (some (.ref f_18)))
    (l_18 : K.lookup f_18 = some ⟨oc_18, od_18, .func (PySem.W.fnOf "rectangle" "rectangle" (defArgs s_rectangle) (defBody s_rectangle) (defScope s_rectangle) .none kV_18 dc_18 pm_18 an_18 cd_18 ct_18), sl_18⟩)
    (c_18 : PySem.W.codeIn K cd_18 "rectangle" = true)
    (k_18 : PySem.W.keepIn K (.ref f_18) = true)
    (a_19 : PySem.W.nsIn K mainGlobals "rectangles" = some (some (.ref f_19)))
    (l_19 : K.lookup f_19 = some ⟨oc_19, od_19, .func (PySem.W.fnOf "rectangles" "rectangles" (defArgs s_rectangles) (defBody s_rectangles) (defScope s_rectangles) .none kV_19 dc_19 pm_19 an_19 cd_19 ct_19), sl_19⟩)
    (c_19 : PySem.W.codeIn K cd_19 "rectangles" = true)
    (k_19 : PySem.W.keepIn K (.ref f_19) = true)
    (a_20 : PySem.W.nsIn K mainGlobals "stones_of" = some (some (.ref f_20)))
    (l_20 : K.lookup f_20 = some ⟨oc_20, od_20, .func (PySem.W.fnOf "stones_of" "stones_of" (defArgs s_stones_of) (defBody s_stones_of) (defScope s_stones_of) .none kV_20 dc_20 pm_20 an_20 cd_20 ct_20), sl_20⟩)
    (c_20 : PySem.W.codeIn K cd_20 "stones_of" = true)
    (k_20 : PySem.W.keepIn K (.ref f_20) = true)
    (a_21 : PySem.W.nsIn K mainGlobals "_law_area" = some (some (.ref f_21)))
    (l_21 : K.lookup f_21 = some ⟨oc_21, od_21, .func (PySem.W.fnOf "_law_area" "_law_area" (defArgs s__law_area) (defBody s__law_area) (defScope s__law_area) .none kV_21 dc_21 pm_21 an_21 cd_21 ct_21), sl_21⟩)
    (c_21 : PySem.W.codeIn K cd_21 "_law_area" = true)
    (k_21 : PySem.W.keepIn K (.ref f_21) = true)
    (a_22 : PySem.W.nsIn K mainGlobals "need_rows" = some (some (.ref f_22)))
    (l_22 : K.lookup f_22 = some ⟨oc_22, od_22, .func (PySem.W.fnOf "need_rows" "need_rows" (defArgs s_need_rows) (defBody s_need_rows) (defScope s_need_rows) .none kV_22 dc_22 pm_22 an_22 cd_22 ct_22), sl_22⟩)
    (c_22 : PySem.W.codeIn K cd_22 "need_rows" = true)
    (k_22 : PySem.W.keepIn K (.ref f_22) = true)
    (a_23 : PySem.W.nsIn K mainGlobals "all_stones" = some (some (.ref f_23)))
    (l_23 : K.lookup f_23 = some ⟨oc_23, od_23, .func (PySem.W.fnOf "all_stones" "all_stones" (defArgs s_all_stones) (defBody s_all_stones) (defScope s_all_stones) .none kV_23 dc_23 pm_23 an_23 cd_23 ct_23), sl_23⟩)
    (c_23 : PySem.W.codeIn K cd_23 "all_stones" = true)
    (k_23 : PySem.W.keepIn K (.ref f_23) = true)
    (a_24 : PySem.W.nsIn K mainGlobals "wide_of" = some (some (.ref f_24)))
    (l_24 : K.lookup f_24 = some ⟨oc_24, od_24, .func (PySem.W.fnOf "wide_of" "wide_of" (defArgs s_wide_of) (defBody s_wide_of) (defScope s_wide_of) .none kV_24 dc_24 pm_24 an_24 cd_24 ct_24), sl_24⟩)
    (c_24 : PySem.W.codeIn K cd_24 "wide_of" = true)
    (k_24 : PySem.W.keepIn K (.ref f_24) = true)
    (a_25 : PySem.W.nsIn K mainGlobals "area_of" = some (some (.ref f_25)))
    (l_25 : K.lookup f_25 = some ⟨oc_25, od_25, .func (PySem.W.fnOf "area_of" "area_of" (defArgs s_area_of) (defBody s_area_of) (defScope s_area_of) .none kV_25 dc_25 pm_25 an_25 cd_25 ct_25), sl_25⟩)
    (c_25 : PySem.W.codeIn K cd_25 "area_of" = true)
    (k_25 : PySem.W.keepIn K (.ref f_25) = true)
    (a_26 : PySem.W.nsIn K mainGlobals "need_square" = some (some (.ref f_26)))
    (l_26 : K.lookup f_26 = some ⟨oc_26, od_26, .func (PySem.W.fnOf "need_square" "need_square" (defArgs s_need_square) (defBody s_need_square) (defScope s_need_square) .none kV_26 dc_26 pm_26 an_26 cd_26 ct_26), sl_26⟩)
    (c_26 : PySem.W.codeIn K cd_26 "need_square" = true)
    (k_26 : PySem.W.keepIn K (.ref f_26) = true)
    (a_27 : PySem.W.nsIn K mainGlobals "holds_square" = some (some (.ref f_27)))
    (l_27 : K.lookup f_27 = some ⟨oc_27, od_27, .func (PySem.W.fnOf "holds_square" "holds_square" (defArgs s_holds_square) (defBody s_holds_square) (defScope s_holds_square) .none kV_27 dc_27 pm_27 an_27 cd_27 ct_27), sl_27⟩)
    (c_27 : PySem.W.codeIn K cd_27 "holds_square" = true)
    (k_27 : PySem.W.keepIn K (.ref f_27) = true)
    (a_28 : PySem.W.nsIn K mainGlobals "at_by" = some (some (.ref f_28)))
    (l_28 : K.lookup f_28 = some ⟨oc_28, od_28, .func (PySem.W.fnOf "at_by" "at_by" (defArgs s_at_by) (defBody s_at_by) (defScope s_at_by) .none kV_28 dc_28 pm_28 an_28 cd_28 ct_28), sl_28⟩)
    (c_28 : PySem.W.codeIn K cd_28 "at_by" = true)
    (k_28 : PySem.W.keepIn K (.ref f_28) = true)
    (a_29 : PySem.W.nsIn K mainGlobals "at_square" = some (some (.ref f_29)))
    (l_29 : K.lookup f_29 = some ⟨oc_29, od_29, .func (PySem.W.fnOf "at_square" "at_square" (defArgs s_at_square) (defBody s_at_square) (defScope s_at_square) .none kV_29 dc_29 pm_29 an_29 cd_29 ct_29), sl_29⟩)
    (c_29 : PySem.W.codeIn K cd_29 "at_square" = true)
    (k_29 : PySem.W.keepIn K (.ref f_29) = true)
    (a_30 : PySem.W.nsIn K mainGlobals "cover" = some (some (.ref f_30)))
    (l_30 : K.lookup f_30 = some ⟨oc_30, od_30, .func (PySem.W.fnOf "cover" "cover" (defArgs s_cover) (defBody s_cover) (defScope s_cover) .none kV_30 dc_30 pm_30 an_30 cd_30 ct_30), sl_30⟩)
    (c_30 : PySem.W.codeIn K cd_30 "cover" = true)
    (k_30 : PySem.W.keepIn K (.ref f_30) = true)
    (a_31 : PySem.W.nsIn K mainGlobals "over_by" = some (some (.ref f_31)))
    (l_31 : K.lookup f_31 = some ⟨oc_31, od_31, .func (PySem.W.fnOf "over_by" "over_by" (defArgs s_over_by) (defBody s_over_by) (defScope s_over_by) .none kV_31 dc_31 pm_31 an_31 cd_31 ct_31), sl_31⟩)
    (c_31 : PySem.W.codeIn K cd_31 "over_by" = true)
    (k_31 : PySem.W.keepIn K (.ref f_31) = true)
    (a_32 : PySem.W.nsIn K mainGlobals "first_over" = some (some (.ref f_32)))
    (l_32 : K.lookup f_32 = some ⟨oc_32, od_32, .func (PySem.W.fnOf "first_over" "first_over" (defArgs s_first_over) (defBody s_first_over) (defScope s_first_over) .none kV_32 dc_32 pm_32 an_32 cd_32 ct_32), sl_32⟩)
    (c_32 : PySem.W.codeIn K cd_32 "first_over" = true)
    (k_32 : PySem.W.keepIn K (.ref f_32) = true)
    (a_33 : PySem.W.nsIn K mainGlobals "_law_rows_right" = some (some (.ref f_33)))
    (l_33 : K.lookup f_33 = some ⟨oc_33, od_33, .func (PySem.W.fnOf "_law_rows_right" "_law_rows_right" (defArgs s__law_rows_right) (defBody s__law_rows_right) (defScope s__law_rows_right) .none kV_33 dc_33 pm_33 an_33 cd_33 ct_33), sl_33⟩)
    (c_33 : PySem.W.codeIn K cd_33 "_law_rows_right" = true)
    (k_33 : PySem.W.keepIn K (.ref f_33) = true)
    (a_34 : PySem.W.nsIn K mainGlobals "_law_step" = some (some (.ref f_34)))
    (l_34 : K.lookup f_34 = some ⟨oc_34, od_34, .func (PySem.W.fnOf "_law_step" "_law_step" (defArgs s__law_step) (defBody s__law_step) (defScope s__law_step) .none kV_34 dc_34 pm_34 an_34 cd_34 ct_34), sl_34⟩)
    (c_34 : PySem.W.codeIn K cd_34 "_law_step" = true)
    (k_34 : PySem.W.keepIn K (.ref f_34) = true)
    (a_35 : PySem.W.nsIn K mainGlobals "_law_side" = some (some (.ref f_35)))
    (l_35 : K.lookup f_35 = some ⟨oc_35, od_35, .func (PySem.W.fnOf "_law_side" "_law_side" (defArgs s__law_side) (defBody s__law_side) (defScope s__law_side) .none kV_35 dc_35 pm_35 an_35 cd_35 ct_35), sl_35⟩)
    (c_35 : PySem.W.codeIn K cd_35 "_law_side" = true)
    (k_35 : PySem.W.keepIn K (.ref f_35) = true)
    (a_36 : PySem.W.nsIn K mainGlobals "_law_strips" = some (some (.ref f_36)))
    (l_36 : K.lookup f_36 = some ⟨oc_36, od_36, .func (PySem.W.fnOf "_law_strips" "_law_strips" (defArgs s__law_strips) (defBody s__law_strips) (defScope s__law_strips) .none kV_36 dc_36 pm_36 an_36 cd_36 ct_36), sl_36⟩)
    (c_36 : PySem.W.codeIn K cd_36 "_law_strips" = true)
    (k_36 : PySem.W.keepIn K (.ref f_36) = true)
    (a_37 : PySem.W.nsIn K mainGlobals "_law_path" = some (some (.ref f_37)))
    (l_37 : K.lookup f_37 = some ⟨oc_37, od_37, .func (PySem.W.fnOf "_law_path" "_law_path" (defArgs s__law_path) (defBody s__law_path) (defScope s__law_path) .none kV_37 dc_37 pm_37 an_37 cd_37 ct_37), sl_37⟩)
    (c_37 : PySem.W.codeIn K cd_37 "_law_path" = true)
    (k_37 : PySem.W.keepIn K (.ref f_37) = true)
    (a_38 : PySem.W.nsIn K mainGlobals "_law_stones" = some (some (.ref f_38)))
    (l_38 : K.lookup f_38 = some ⟨oc_38, od_38, .func (PySem.W.fnOf "_law_stones" "_law_stones" (defArgs s__law_stones) (defBody s__law_stones) (defScope s__law_stones) .none kV_38 dc_38 pm_38 an_38 cd_38 ct_38), sl_38⟩)
    (c_38 : PySem.W.codeIn K cd_38 "_law_stones" = true)
    (k_38 : PySem.W.keepIn K (.ref f_38) = true)
    (a_39 : PySem.W.nsIn K mainGlobals "_law_row" = some (some (.ref f_39)))
    (l_39 : K.lookup f_39 = some ⟨oc_39, od_39, .func (PySem.W.fnOf "_law_row" "_law_row" (defArgs s__law_row) (defBody s__law_row) (defScope s__law_row) .none kV_39 dc_39 pm_39 an_39 cd_39 ct_39), sl_39⟩)
    (c_39 : PySem.W.codeIn K cd_39 "_law_row" = true)
    (k_39 : PySem.W.keepIn K (.ref f_39) = true)
    (a_40 : PySem.W.nsIn K mainGlobals "gap_of" = some (some (.ref f_40)))
    (l_40 : K.lookup f_40 = some ⟨oc_40, od_40, .func (PySem.W.fnOf "gap_of" "gap_of" (defArgs s_gap_of) (defBody s_gap_of) (defScope s_gap_of) .none kV_40 dc_40 pm_40 an_40 cd_40 ct_40), sl_40⟩)
    (c_40 : PySem.W.codeIn K cd_40 "gap_of" = true)
    (k_40 : PySem.W.keepIn K (.ref f_40) = true)
    (a_41 : PySem.W.nsIn K mainGlobals "apart" = some (some (.ref f_41)))
    (l_41 : K.lookup f_41 = some ⟨oc_41, od_41, .func (PySem.W.fnOf "apart" "apart" (defArgs s_apart) (defBody s_apart) (defScope s_apart) .none kV_41 dc_41 pm_41 an_41 cd_41 ct_41), sl_41⟩)
    (c_41 : PySem.W.codeIn K cd_41 "apart" = true)
    (k_41 : PySem.W.keepIn K (.ref f_41) = true)
    (a_42 : PySem.W.nsIn K mainGlobals "need_path" = some (some (.ref f_42)))
    (l_42 : K.lookup f_42 = some ⟨oc_42, od_42, .func (PySem.W.fnOf "need_path" "need_path" (defArgs s_need_path) (defBody s_need_path) (defScope s_need_path) .none kV_42 dc_42 pm_42 an_42 cd_42 ct_42), sl_42⟩)
    (c_42 : PySem.W.codeIn K cd_42 "need_path" = true)
    (k_42 : PySem.W.keepIn K (.ref f_42) = true)
    (a_43 : PySem.W.nsIn K mainGlobals "need_width" = some (some (.ref f_43)))
    (l_43 : K.lookup f_43 = some ⟨oc_43, od_43, .func (PySem.W.fnOf "need_width" "need_width" (defArgs s_need_width) (defBody s_need_width) (defScope s_need_width) .none kV_43 dc_43 pm_43 an_43 cd_43 ct_43), sl_43⟩)
    (c_43 : PySem.W.codeIn K cd_43 "need_width" = true)
    (k_43 : PySem.W.keepIn K (.ref f_43) = true)
    (a_44 : PySem.W.nsIn K mainGlobals "strips" = some (some (.ref f_44)))
    (l_44 : K.lookup f_44 = some ⟨oc_44, od_44, .func (PySem.W.fnOf "strips" "strips" (defArgs s_strips) (defBody s_strips) (defScope s_strips) .none kV_44 dc_44 pm_44 an_44 cd_44 ct_44), sl_44⟩)
    (c_44 : PySem.W.codeIn K cd_44 "strips" = true)
    (k_44 : PySem.W.keepIn K (.ref f_44) = true)
    (a_45 : PySem.W.nsIn K mainGlobals "rect_of" = some (some (.ref f_45)))
    (l_45 : K.lookup f_45 = some ⟨oc_45, od_45, .func (PySem.W.fnOf "rect_of" "rect_of" (defArgs s_rect_of) (defBody s_rect_of) (defScope s_rect_of) .none kV_45 dc_45 pm_45 an_45 cd_45 ct_45), sl_45⟩)
    (c_45 : PySem.W.codeIn K cd_45 "rect_of" = true)
    (k_45 : PySem.W.keepIn K (.ref f_45) = true)
    (a_46 : PySem.W.nsIn K mainGlobals "are_longs" = some (some (.ref f_46)))
    (l_46 : K.lookup f_46 = some ⟨oc_46, od_46, .func (PySem.W.fnOf "are_longs" "are_longs" (defArgs s_are_longs) (defBody s_are_longs) (defScope s_are_longs) .none kV_46 dc_46 pm_46 an_46 cd_46 ct_46), sl_46⟩)
    (c_46 : PySem.W.codeIn K cd_46 "are_longs" = true)
    (k_46 : PySem.W.keepIn K (.ref f_46) = true)
    (a_47 : PySem.W.nsIn K mainGlobals "need_longs" = some (some (.ref f_47)))
    (l_47 : K.lookup f_47 = some ⟨oc_47, od_47, .func (PySem.W.fnOf "need_longs" "need_longs" (defArgs s_need_longs) (defBody s_need_longs) (defScope s_need_longs) .none kV_47 dc_47 pm_47 an_47 cd_47 ct_47), sl_47⟩)
    (c_47 : PySem.W.codeIn K cd_47 "need_longs" = true)
    (k_47 : PySem.W.keepIn K (.ref f_47) = true)
    (a_48 : PySem.W.nsIn K mainGlobals "is_span" = some (some (.ref f_48)))
    (l_48 : K.lookup f_48 = some ⟨oc_48, od_48, .func (PySem.W.fnOf "is_span" "is_span" (defArgs s_is_span) (defBody s_is_span) (defScope s_is_span) .none kV_48 dc_48 pm_48 an_48 cd_48 ct_48), sl_48⟩)
    (c_48 : PySem.W.codeIn K cd_48 "is_span" = true)
    (k_48 : PySem.W.keepIn K (.ref f_48) = true)
    (a_49 : PySem.W.nsIn K mainGlobals "need_span" = some (some (.ref f_49)))
    (l_49 : K.lookup f_49 = some ⟨oc_49, od_49, .func (PySem.W.fnOf "need_span" "need_span" (defArgs s_need_span) (defBody s_need_span) (defScope s_need_span) .none kV_49 dc_49 pm_49 an_49 cd_49 ct_49), sl_49⟩)
    (c_49 : PySem.W.codeIn K cd_49 "need_span" = true)
    (k_49 : PySem.W.keepIn K (.ref f_49) = true)
    (a_50 : PySem.W.nsIn K mainGlobals "are_joints" = some (some (.ref f_50)))
    (l_50 : K.lookup f_50 = some ⟨oc_50, od_50, .func (PySem.W.fnOf "are_joints" "are_joints" (defArgs s_are_joints) (defBody s_are_joints) (defScope s_are_joints) .none kV_50 dc_50 pm_50 an_50 cd_50 ct_50), sl_50⟩)
    (c_50 : PySem.W.codeIn K cd_50 "are_joints" = true)
    (k_50 : PySem.W.keepIn K (.ref f_50) = true)
    (a_51 : PySem.W.nsIn K mainGlobals "need_joints" = some (some (.ref f_51)))
    (l_51 : K.lookup f_51 = some ⟨oc_51, od_51, .func (PySem.W.fnOf "need_joints" "need_joints" (defArgs s_need_joints) (defBody s_need_joints) (defScope s_need_joints) .none kV_51 dc_51 pm_51 an_51 cd_51 ct_51), sl_51⟩)
    (c_51 : PySem.W.codeIn K cd_51 "need_joints" = true)
    (k_51 : PySem.W.keepIn K (.ref f_51) = true)
    (a_52 : PySem.W.nsIn K mainGlobals "need_all" = some (some (.ref f_52)))
    (l_52 : K.lookup f_52 = some ⟨oc_52, od_52, .func (PySem.W.fnOf "need_all" "need_all" (defArgs s_need_all) (defBody s_need_all) (defScope s_need_all) .none kV_52 dc_52 pm_52 an_52 cd_52 ct_52), sl_52⟩)
    (c_52 : PySem.W.codeIn K cd_52 "need_all" = true)
    (k_52 : PySem.W.keepIn K (.ref f_52) = true)
    (a_53 : PySem.W.nsIn K mainGlobals "is_laid" = some (some (.ref f_53)))
    (l_53 : K.lookup f_53 = some ⟨oc_53, od_53, .func (PySem.W.fnOf "is_laid" "is_laid" (defArgs s_is_laid) (defBody s_is_laid) (defScope s_is_laid) .none kV_53 dc_53 pm_53 an_53 cd_53 ct_53), sl_53⟩)
    (c_53 : PySem.W.codeIn K cd_53 "is_laid" = true)
    (k_53 : PySem.W.keepIn K (.ref f_53) = true)
    (a_54 : PySem.W.nsIn K mainGlobals "is_laying" = some (some (.ref f_54)))
    (l_54 : K.lookup f_54 = some ⟨oc_54, od_54, .func (PySem.W.fnOf "is_laying" "is_laying" (defArgs s_is_laying) (defBody s_is_laying) (defScope s_is_laying) .none kV_54 dc_54 pm_54 an_54 cd_54 ct_54), sl_54⟩)
    (c_54 : PySem.W.codeIn K cd_54 "is_laying" = true)
    (k_54 : PySem.W.keepIn K (.ref f_54) = true)
    (a_55 : PySem.W.nsIn K mainGlobals "first_cover" = some (some (.ref f_55)))
    (l_55 : K.lookup f_55 = some ⟨oc_55, od_55, .func (PySem.W.fnOf "first_cover" "first_cover" (defArgs s_first_cover) (defBody s_first_cover) (defScope s_first_cover) .none kV_55 dc_55 pm_55 an_55 cd_55 ct_55), sl_55⟩)
    (c_55 : PySem.W.codeIn K cd_55 "first_cover" = true)
    (k_55 : PySem.W.keepIn K (.ref f_55) = true)
    (a_56 : PySem.W.nsIn K mainGlobals "joints_of" = some (some (.ref f_56)))
    (l_56 : K.lookup f_56 = some ⟨oc_56, od_56, .func (PySem.W.fnOf "joints_of" "joints_of" (defArgs s_joints_of) (defBody s_joints_of) (defScope s_joints_of) .none kV_56 dc_56 pm_56 an_56 cd_56 ct_56), sl_56⟩)
    (c_56 : PySem.W.codeIn K cd_56 "joints_of" = true)
    (k_56 : PySem.W.keepIn K (.ref f_56) = true)
    (a_57 : PySem.W.nsIn K mainGlobals "amiss" = some (some (.ref f_57)))
    (l_57 : K.lookup f_57 = some ⟨oc_57, od_57, .func (PySem.W.fnOf "amiss" "amiss" (defArgs s_amiss) (defBody s_amiss) (defScope s_amiss) .none kV_57 dc_57 pm_57 an_57 cd_57 ct_57), sl_57⟩)
    (c_57 : PySem.W.codeIn K cd_57 "amiss" = true)
    (k_57 : PySem.W.keepIn K (.ref f_57) = true)
    (a_58 : PySem.W.nsIn K mainGlobals "in_joints" = some (some (.ref f_58)))
    (l_58 : K.lookup f_58 = some ⟨oc_58, od_58, .func (PySem.W.fnOf "in_joints" "in_joints" (defArgs s_in_joints) (defBody s_in_joints) (defScope s_in_joints) .none kV_58 dc_58 pm_58 an_58 cd_58 ct_58), sl_58⟩)
    (c_58 : PySem.W.codeIn K cd_58 "in_joints" = true)
    (k_58 : PySem.W.keepIn K (.ref f_58) = true)
    (a_59 : PySem.W.nsIn K mainGlobals "_law_one_right" = some (some (.ref f_59)))
    (l_59 : K.lookup f_59 = some ⟨oc_59, od_59, .func (PySem.W.fnOf "_law_one_right" "_law_one_right" (defArgs s__law_one_right) (defBody s__law_one_right) (defScope s__law_one_right) .none kV_59 dc_59 pm_59 an_59 cd_59 ct_59), sl_59⟩)
    (c_59 : PySem.W.codeIn K cd_59 "_law_one_right" = true)
    (k_59 : PySem.W.keepIn K (.ref f_59) = true)
    (a_60 : PySem.W.nsIn K mainGlobals "law" = some (some (.ref f_60)))
    (l_60 : K.lookup f_60 = some ⟨oc_60, od_60, .func (PySem.W.fnOf "law" "law" (defArgs s_law) (defBody s_law) (defScope s_law) .none kV_60 dc_60 pm_60 an_60 cd_60 ct_60), sl_60⟩)
    (c_60 : PySem.W.codeIn K cd_60 "law" = true)
    (k_60 : PySem.W.keepIn K (.ref f_60) = true)
    (z_all : PySem.W.nsIn K mainGlobals "all" = some none)
    (z_bool : PySem.W.nsIn K mainGlobals "bool" = some none)
    (z_enumerate : PySem.W.nsIn K mainGlobals "enumerate" = some none)
    (z_int : PySem.W.nsIn K mainGlobals "int" = some none)
    (z_isinstance : PySem.W.nsIn K mainGlobals "isinstance" = some none)
    (z_len : PySem.W.nsIn K mainGlobals "len" = some none)
    (z_max : PySem.W.nsIn K mainGlobals "max" = some none)
    (z_min : PySem.W.nsIn K mainGlobals "min" = some none)
    (z_range : PySem.W.nsIn K mainGlobals "range" = some none)
    (z_set : PySem.W.nsIn K mainGlobals "set" = some none)
    (z_sorted : PySem.W.nsIn K mainGlobals "sorted" = some none)
    (z_str : PySem.W.nsIn K mainGlobals "str" = some none)
    (z_sum : PySem.W.nsIn K mainGlobals "sum" = some none)
    (z_tuple : PySem.W.nsIn K mainGlobals "tuple" = some none)
    (z_zip : PySem.W.nsIn K mainGlobals "zip" = some none)
    (a_MOST_FAR : PySem.W.nsIn K mainGlobals "MOST_FAR" = some (some (.int 1000 t_MOST_FAR)))
    (a_MOST_JOINT : PySem.W.nsIn K mainGlobals "MOST_JOINT" = some (some (.int 9 t_MOST_JOINT)))
    (a_MOST_LEGS : PySem.W.nsIn K mainGlobals "MOST_LEGS" = some (some (.int 6 t_MOST_LEGS)))
    (a_MOST_LONG : PySem.W.nsIn K mainGlobals "MOST_LONG" = some (some (.int 60 t_MOST_LONG)))
    (a_MOST_ROWS : PySem.W.nsIn K mainGlobals "MOST_ROWS" = some (some (.int 6 t_MOST_ROWS)))
    (a_MOST_SPAN : PySem.W.nsIn K mainGlobals "MOST_SPAN" = some (some (.int 80 t_MOST_SPAN)))
    (a_MOST_STONE : PySem.W.nsIn K mainGlobals "MOST_STONE" = some (some (.int 20 t_MOST_STONE)))
    (a_MOST_STONES : PySem.W.nsIn K mainGlobals "MOST_STONES" = some (some (.int 12 t_MOST_STONES)))
    (a_MOST_WIDTH : PySem.W.nsIn K mainGlobals "MOST_WIDTH" = some (some (.int 9 t_MOST_WIDTH)))
    (a_STEPS : PySem.W.nsIn K mainGlobals "STEPS" = some (some (.ref p_STEPS)))
    (l_STEPS : K.lookup p_STEPS = some ⟨.type "tuple", none, .seq #[(.ref p_STEPS_0), (.ref p_STEPS_1), (.ref p_STEPS_2), (.ref p_STEPS_3)] n_STEPS, sl_STEPS⟩)
    (l_STEPS_0 : K.lookup p_STEPS_0 = some ⟨.type "tuple", none, .seq #[(.int 1 t_STEPS_0_0), (.int 0 t_STEPS_0_1)] n_STEPS_0, sl_STEPS_0⟩)
    (l_STEPS_1 : K.lookup p_STEPS_1 = some ⟨.type "tuple", none, .seq #[(.int 0 t_STEPS_1_0), (.int 1 t_STEPS_1_1)] n_STEPS_1, sl_STEPS_1⟩)
    (l_STEPS_2 : K.lookup p_STEPS_2 = some ⟨.type "tuple", none, .seq #[(.int (-1) t_STEPS_2_0), (.int 0 t_STEPS_2_1)] n_STEPS_2, sl_STEPS_2⟩)
    (l_STEPS_3 : K.lookup p_STEPS_3 = some ⟨.type "tuple", none, .seq #[(.int 0 t_STEPS_3_0), (.int (-1) t_STEPS_3_1)] n_STEPS_3, sl_STEPS_3⟩)
    (a_WAYS : PySem.W.nsIn K mainGlobals "WAYS" = some (some (.ref p_WAYS)))
    (l_WAYS : K.lookup p_WAYS = some ⟨.type "tuple", none, .seq #[(.str "east" t_WAYS_0), (.str "north" t_WAYS_1), (.str "west" t_WAYS_2), (.str "south" t_WAYS_3)] n_WAYS, sl_WAYS⟩) :
    ∃ (fd : FuncData), (∀ (s : Shared) (v : Value), BindsTo s fd ⟨[v], []⟩ [("_law_script", v)]) ∧ ∀ base : Heap, K.In base → base.Ns mainGlobals mg → SysM base → Fnk ⟨P, w, K, mg, base⟩ false 10 fa fd ["_law_script"] m_law := by
  have e := hfa.symm.trans (PySem.W.mg_of X G a_60)
  cases e
  refine ⟨PySem.W.fnOf "law" "law" (defArgs s_law) (defBody s_law) (defScope s_law) .none kV_60 dc_60 pm_60 an_60 cd_60 ct_60, fun s v => .of_eq rfl, fun base _ _ SMb => ?_⟩
  have T : Hs ⟨P, w, K, mg, base⟩ := ⟨PySem.W.mg_none_of X G z_all,
    PySem.W.mg_none_of X G z_bool,
    PySem.W.mg_none_of X G z_enumerate,
    PySem.W.mg_none_of X G z_int,
    PySem.W.mg_none_of X G z_isinstance,
    PySem.W.mg_none_of X G z_len,
    PySem.W.mg_none_of X G z_max,
    PySem.W.mg_none_of X G z_min,
    PySem.W.mg_none_of X G z_range,
    PySem.W.mg_none_of X G z_set,
    PySem.W.mg_none_of X G z_sorted,
    PySem.W.mg_none_of X G z_str,
    PySem.W.mg_none_of X G z_sum,
    PySem.W.mg_none_of X G z_tuple,
    PySem.W.mg_none_of X G z_zip,
    gw_of X G a_MOST_FAR wr_int,
    gw_of X G a_MOST_JOINT wr_int,
    gw_of X G a_MOST_LEGS wr_int,
    gw_of X G a_MOST_LONG wr_int,
    gw_of X G a_MOST_ROWS wr_int,
    gw_of X G a_MOST_SPAN wr_int,
    gw_of X G a_MOST_STONE wr_int,
    gw_of X G a_MOST_STONES wr_int,
    gw_of X G a_MOST_WIDTH wr_int,
    gw_of X G a_STEPS (wr_tup (us := [(.ref p_STEPS_0), (.ref p_STEPS_1), (.ref p_STEPS_2), (.ref p_STEPS_3)]) l_STEPS (Nat.le_of_ble_eq_true rfl) (wrs_cons (wr_tup (us := [(.int 1 t_STEPS_0_0), (.int 0 t_STEPS_0_1)]) l_STEPS_0 (Nat.le_of_ble_eq_true rfl) (wrs_cons wr_int (wrs_cons wr_int wrs_nil)) (List.Mem.tail _ (List.Mem.head _))) (wrs_cons (wr_tup (us := [(.int 0 t_STEPS_1_0), (.int 1 t_STEPS_1_1)]) l_STEPS_1 (Nat.le_of_ble_eq_true rfl) (wrs_cons wr_int (wrs_cons wr_int wrs_nil)) (List.Mem.tail _ (List.Mem.tail _ (List.Mem.head _)))) (wrs_cons (wr_tup (us := [(.int (-1) t_STEPS_2_0), (.int 0 t_STEPS_2_1)]) l_STEPS_2 (Nat.le_of_ble_eq_true rfl) (wrs_cons wr_int (wrs_cons wr_int wrs_nil)) (List.Mem.tail _ (List.Mem.tail _ (List.Mem.tail _ (List.Mem.head _))))) (wrs_cons (wr_tup (us := [(.int 0 t_STEPS_3_0), (.int (-1) t_STEPS_3_1)]) l_STEPS_3 (Nat.le_of_ble_eq_true rfl) (wrs_cons wr_int (wrs_cons wr_int wrs_nil)) (List.Mem.tail _ (List.Mem.tail _ (List.Mem.tail _ (List.Mem.tail _ (List.Mem.head _)))))) wrs_nil)))) (List.Mem.head _)),
    gw_of X G a_WAYS (wr_tup (us := [(.str "east" t_WAYS_0), (.str "north" t_WAYS_1), (.str "west" t_WAYS_2), (.str "south" t_WAYS_3)]) l_WAYS (Nat.le_of_ble_eq_true rfl) (wrs_cons wr_str (wrs_cons wr_str (wrs_cons wr_str (wrs_cons wr_str wrs_nil)))) (List.Mem.tail _ (List.Mem.tail _ (List.Mem.tail _ (List.Mem.tail _ (List.Mem.tail _ (List.Mem.head _))))))),
    gix_of (us := [.str "east" t_WAYS_0, .str "north" t_WAYS_1, .str "west" t_WAYS_2, .str "south" t_WAYS_3]) X G a_WAYS l_WAYS (Nat.le_of_ble_eq_true rfl) (.cons ⟨_, rfl⟩ (.cons ⟨_, rfl⟩ (.cons ⟨_, rfl⟩ (.cons ⟨_, rfl⟩ .nil))))⟩
  have h__law_pen_of := h__law_pen_of T  (top_mk (M := ⟨P, w, K, mg, base⟩) X G a_0 l_0 c_0 k_0 (fun us hl => match us, hl with | [_], _ => rfl))
  have h__law_next := h__law_next T  (top_mk (M := ⟨P, w, K, mg, base⟩) X G a_1 l_1 c_1 k_1 (fun us hl => match us, hl with | [_], _ => rfl))
  have h__law_draw := h__law_draw T h__law_next (top_mk (M := ⟨P, w, K, mg, base⟩) X G a_2 l_2 c_2 k_2 (fun us hl => match us, hl with | [_, _], _ => rfl))
  have h__law_joints := h__law_joints T h__law_draw (top_mk (M := ⟨P, w, K, mg, base⟩) X G a_3 l_3 c_3 k_3 (fun us hl => match us, hl with | [_], _ => rfl))
  have h__law_cell_at := h__law_cell_at T  (top_mk (M := ⟨P, w, K, mg, base⟩) X G a_4 l_4 c_4 k_4 (fun us hl => match us, hl with | [_, _], _ => rfl))
  have h_quarter := h_quarter T  (top_mk (M := ⟨P, w, K, mg, base⟩) X G a_5 l_5 c_5 k_5 (fun us hl => match us, hl with | [_, _], _ => rfl))
  have h_bend_sides := h_bend_sides T h_quarter (top_mk (M := ⟨P, w, K, mg, base⟩) X G a_6 l_6 c_6 k_6 (fun us hl => match us, hl with | [_], _ => rfl))
  have h_gone := h_gone T  (top_mk (M := ⟨P, w, K, mg, base⟩) X G a_7 l_7 c_7 k_7 (fun us hl => match us, hl with | [_, _, _, _], _ => rfl))
  have h_leg_points := h_leg_points T h_gone (top_mk (M := ⟨P, w, K, mg, base⟩) X G a_8 l_8 c_8 k_8 (fun us hl => match us, hl with | [_], _ => rfl))
  have h_strips_by := h_strips_by T h_bend_sides h_gone h_leg_points (top_mk (M := ⟨P, w, K, mg, base⟩) X G a_9 l_9 c_9 k_9 (fun us hl => match us, hl with | [_, _], _ => rfl))
  have h_is_whole := h_is_whole T  (top_mk (M := ⟨P, w, K, mg, base⟩) X G a_10 l_10 c_10 k_10 (fun us hl => match us, hl with | [_], _ => rfl))
  have h_is_from_to := h_is_from_to T h_is_whole (top_mk (M := ⟨P, w, K, mg, base⟩) X G a_11 l_11 c_11 k_11 (fun us hl => match us, hl with | [_, _, _], _ => rfl))
  have h_is_leg := h_is_leg T h_is_from_to (top_mk (M := ⟨P, w, K, mg, base⟩) X G a_12 l_12 c_12 k_12 (fun us hl => match us, hl with | [_], _ => rfl))
  have h_is_path := h_is_path T h_is_from_to h_is_leg h_quarter (top_mk (M := ⟨P, w, K, mg, base⟩) X G a_13 l_13 c_13 k_13 (fun us hl => match us, hl with | [_], _ => rfl))
  have h_strips_or_none := h_strips_or_none T h_is_from_to h_is_path h_strips_by (top_mk (M := ⟨P, w, K, mg, base⟩) X G a_14 l_14 c_14 k_14 (fun us hl => match us, hl with | [_], _ => rfl))
  have h_are_stones := h_are_stones T h_is_from_to (top_mk (M := ⟨P, w, K, mg, base⟩) X G a_15 l_15 c_15 k_15 (fun us hl => match us, hl with | [_, _], _ => rfl))
  have h_is_row := h_is_row T h_are_stones h_strips_or_none (top_mk (M := ⟨P, w, K, mg, base⟩) X G a_16 l_16 c_16 k_16 (fun us hl => match us, hl with | [_], _ => rfl))
  have h_need_row := h_need_row T h_is_row (top_mk (M := ⟨P, w, K, mg, base⟩) X G a_17 l_17 c_17 k_17 (fun us hl => match us, hl with | [_], _ => rfl))
  have h_rectangle := h_rectangle T  (top_mk (M := ⟨P, w, K, mg, base⟩) X G a_18 l_18 c_18 k_18 (fun us hl => match us, hl with | [_, _, _, _], _ => rfl))
  have h_rectangles := h_rectangles T h_rectangle h_strips_by (top_mk (M := ⟨P, w, K, mg, base⟩) X G a_19 l_19 c_19 k_19 (fun us hl => match us, hl with | [_], _ => rfl))
  have h_stones_of := h_stones_of T h_need_row h_rectangles (top_mk (M := ⟨P, w, K, mg, base⟩) X G a_20 l_20 c_20 k_20 (fun us hl => match us, hl with | [_], _ => rfl))
  have h__law_area := h__law_area T  (top_mk (M := ⟨P, w, K, mg, base⟩) X G a_21 l_21 c_21 k_21 (fun us hl => match us, hl with | [_], _ => rfl))
  have h_need_rows := h_need_rows T h_is_row (top_mk (M := ⟨P, w, K, mg, base⟩) X G a_22 l_22 c_22 k_22 (fun us hl => match us, hl with | [_], _ => rfl))
  have h_all_stones := h_all_stones T h_rectangles (top_mk (M := ⟨P, w, K, mg, base⟩) X G a_23 l_23 c_23 k_23 (fun us hl => match us, hl with | [_], _ => rfl))
  have h_wide_of := h_wide_of T  (top_mk (M := ⟨P, w, K, mg, base⟩) X G a_24 l_24 c_24 k_24 (fun us hl => match us, hl with | [_], _ => rfl))
  have h_area_of := h_area_of T h_all_stones h_need_rows h_wide_of (top_mk (M := ⟨P, w, K, mg, base⟩) X G a_25 l_25 c_25 k_25 (fun us hl => match us, hl with | [_], _ => rfl))
  have h_need_square := h_need_square T h_is_whole (top_mk (M := ⟨P, w, K, mg, base⟩) X G a_26 l_26 c_26 k_26 (fun us hl => match us, hl with | [_, _], _ => rfl))
  have h_holds_square := h_holds_square T  (top_mk (M := ⟨P, w, K, mg, base⟩) X G a_27 l_27 c_27 k_27 (fun us hl => match us, hl with | [_, _, _], _ => rfl))
  have h_at_by := h_at_by T h_all_stones h_holds_square (top_mk (M := ⟨P, w, K, mg, base⟩) X G a_28 l_28 c_28 k_28 (fun us hl => match us, hl with | [_, _, _], _ => rfl))
  have h_at_square := h_at_square T h_at_by h_need_rows h_need_square (top_mk (M := ⟨P, w, K, mg, base⟩) X G a_29 l_29 c_29 k_29 (fun us hl => match us, hl with | [_, _, _], _ => rfl))
  have h_cover := h_cover T  (top_mk (M := ⟨P, w, K, mg, base⟩) X G a_30 l_30 c_30 k_30 (fun us hl => match us, hl with | [_, _], _ => rfl))
  have h_over_by := h_over_by T h_all_stones h_cover (top_mk (M := ⟨P, w, K, mg, base⟩) X G a_31 l_31 c_31 k_31 (fun us hl => match us, hl with | [_], _ => rfl))
  have h_first_over := h_first_over T h_need_rows h_over_by (top_mk (M := ⟨P, w, K, mg, base⟩) X G a_32 l_32 c_32 k_32 (fun us hl => match us, hl with | [_], _ => rfl))
  have h__law_rows_right := h__law_rows_right T h__law_area h_area_of h_at_square h_first_over h_stones_of (top_mk (M := ⟨P, w, K, mg, base⟩) X G a_33 l_33 c_33 k_33 (fun us hl => match us, hl with | [_], _ => rfl))
  have h__law_step := h__law_step T  (top_mk (M := ⟨P, w, K, mg, base⟩) X G a_34 l_34 c_34 k_34 (fun us hl => match us, hl with | [_], _ => rfl))
  have h__law_side := h__law_side T h__law_step (top_mk (M := ⟨P, w, K, mg, base⟩) X G a_35 l_35 c_35 k_35 (fun us hl => match us, hl with | [_, _], _ => rfl))
  have h__law_strips := h__law_strips T h__law_side h__law_step (top_mk (M := ⟨P, w, K, mg, base⟩) X G a_36 l_36 c_36 k_36 (fun us hl => match us, hl with | [_, _], _ => rfl))
  have h__law_path := h__law_path T h__law_draw (top_mk (M := ⟨P, w, K, mg, base⟩) X G a_37 l_37 c_37 k_37 (fun us hl => match us, hl with | [_], _ => rfl))
  have h__law_stones := h__law_stones T h__law_draw (top_mk (M := ⟨P, w, K, mg, base⟩) X G a_38 l_38 c_38 k_38 (fun us hl => match us, hl with | [_, _], _ => rfl))
  have h__law_row := h__law_row T h__law_draw h__law_path h__law_stones h__law_strips (top_mk (M := ⟨P, w, K, mg, base⟩) X G a_39 l_39 c_39 k_39 (fun us hl => match us, hl with | [_], _ => rfl))
  have h_gap_of := h_gap_of T  (top_mk (M := ⟨P, w, K, mg, base⟩) X G a_40 l_40 c_40 k_40 (fun us hl => match us, hl with | [_, _], _ => rfl))
  have h_apart := h_apart T h_gap_of h_need_row h_rectangles (top_mk (M := ⟨P, w, K, mg, base⟩) X G a_41 l_41 c_41 k_41 (fun us hl => match us, hl with | [_, _], _ => rfl))
  have h_need_path := h_need_path T h_is_path (top_mk (M := ⟨P, w, K, mg, base⟩) X G a_42 l_42 c_42 k_42 (fun us hl => match us, hl with | [_], _ => rfl))
  have h_need_width := h_need_width T h_is_from_to (top_mk (M := ⟨P, w, K, mg, base⟩) X G a_43 l_43 c_43 k_43 (fun us hl => match us, hl with | [_], _ => rfl))
  have h_strips := h_strips T h_need_path h_need_width h_strips_by (top_mk (M := ⟨P, w, K, mg, base⟩) X G a_44 l_44 c_44 k_44 (fun us hl => match us, hl with | [_, _], _ => rfl))
  have h_rect_of := h_rect_of T h_is_from_to h_need_path h_need_width h_rectangle h_strips_by (top_mk (M := ⟨P, w, K, mg, base⟩) X G a_45 l_45 c_45 k_45 (fun us hl => match us, hl with | [_, _, _, _, _], _ => rfl))
  have h_are_longs := h_are_longs T h_is_from_to (top_mk (M := ⟨P, w, K, mg, base⟩) X G a_46 l_46 c_46 k_46 (fun us hl => match us, hl with | [_], _ => rfl))
  have h_need_longs := h_need_longs T h_are_longs (top_mk (M := ⟨P, w, K, mg, base⟩) X G a_47 l_47 c_47 k_47 (fun us hl => match us, hl with | [_], _ => rfl))
  have h_is_span := h_is_span T h_is_from_to (top_mk (M := ⟨P, w, K, mg, base⟩) X G a_48 l_48 c_48 k_48 (fun us hl => match us, hl with | [_], _ => rfl))
  have h_need_span := h_need_span T h_is_span (top_mk (M := ⟨P, w, K, mg, base⟩) X G a_49 l_49 c_49 k_49 (fun us hl => match us, hl with | [_], _ => rfl))
  have h_are_joints := h_are_joints T h_is_from_to (top_mk (M := ⟨P, w, K, mg, base⟩) X G a_50 l_50 c_50 k_50 (fun us hl => match us, hl with | [_], _ => rfl))
  have h_need_joints := h_need_joints T h_are_joints (top_mk (M := ⟨P, w, K, mg, base⟩) X G a_51 l_51 c_51 k_51 (fun us hl => match us, hl with | [_], _ => rfl))
  have h_need_all := h_need_all T h_need_joints h_need_longs h_need_span (top_mk (M := ⟨P, w, K, mg, base⟩) X G a_52 l_52 c_52 k_52 (fun us hl => match us, hl with | [_, _, _], _ => rfl))
  have h_is_laid := h_is_laid T h_is_from_to (top_mk (M := ⟨P, w, K, mg, base⟩) X G a_53 l_53 c_53 k_53 (fun us hl => match us, hl with | [_, _, _, _], _ => rfl))
  have h_is_laying := h_is_laying T h_is_laid h_need_all (top_mk (M := ⟨P, w, K, mg, base⟩) X G a_54 l_54 c_54 k_54 (fun us hl => match us, hl with | [_, _, _, _], _ => rfl))
  have h_first_cover := h_first_cover T h_cover h_need_path h_need_width h_rectangle h_strips_by (top_mk (M := ⟨P, w, K, mg, base⟩) X G a_55 l_55 c_55 k_55 (fun us hl => match us, hl with | [_, _], _ => rfl))
  have h_joints_of := h_joints_of T h_need_row h_strips_by (top_mk (M := ⟨P, w, K, mg, base⟩) X G a_56 l_56 c_56 k_56 (fun us hl => match us, hl with | [_], _ => rfl))
  have h_amiss := h_amiss T  (top_mk (M := ⟨P, w, K, mg, base⟩) X G a_57 l_57 c_57 k_57 (fun us hl => match us, hl with | [_, _, _], _ => rfl))
  have h_in_joints := h_in_joints T h_amiss h_need_joints h_need_row h_strips_by (top_mk (M := ⟨P, w, K, mg, base⟩) X G a_58 l_58 c_58 k_58 (fun us hl => match us, hl with | [_, _], _ => rfl))
  have h__law_one_right := h__law_one_right T h__law_area h_first_cover h_first_over h_in_joints h_is_laying h_joints_of h_rect_of h_stones_of h_strips (top_mk (M := ⟨P, w, K, mg, base⟩) X G a_59 l_59 c_59 k_59 (fun us hl => match us, hl with | [_, _], _ => rfl))
  exact fnk_of l_60 c_60 sc_law t_law rfl rfl (fun X c => b_law T h__law_cell_at h__law_draw h__law_joints h__law_one_right h__law_pen_of h__law_row h__law_rows_right h_apart h_first_over h_is_row c)
end PV
open PySem PySem.W PyProof.Rows
set_option maxRecDepth 100000 in
set_option maxHeartbeats 0 in
theorem PySem.Challenge.cw_bentstones_k45_whole_rows_holds : PySem.Challenge.rw_bentstones_k45_whole_rows.Holds := by
  w_on; o_law; k_head; (case hw => w_witness2)
  k_fill
  letI : PV.Tbl := ⟨[]⟩
  refine PV.walk_run rfl (g := false) (l := PySem.Challenge.rw_bentstones_k45_whole_rows) (n := 63) (k := 10) (x := "_law_script") (mf := PV.m_law) (by rfl) rfl (by decide) rfl ⟨rfl, by decide, by decide⟩ (fun w h Y => PySem.W.kIn_of Y) ?F PV.law_ok
  case F =>
    intro w mg fa h KX G hmg
    refine' PV.all_mk KX G hmg ?a_0 ?l_0 ?c_0 ?k_0 ?a_1 ?l_1 ?c_1 ?k_1 ?a_2 ?l_2 ?c_2 ?k_2 ?a_3 ?l_3 ?c_3 ?k_3 ?a_4 ?l_4 ?c_4 ?k_4 ?a_5 ?l_5 ?c_5 ?k_5 ?a_6 ?l_6 ?c_6 ?k_6 ?a_7 ?l_7 ?c_7 ?k_7 ?a_8 ?l_8 ?c_8 ?k_8 ?a_9 ?l_9 ?c_9 ?k_9 ?a_10 ?l_10 ?c_10 ?k_10 ?a_11 ?l_11 ?c_11 ?k_11 ?a_12 ?l_12 ?c_12 ?k_12 ?a_13 ?l_13 ?c_13 ?k_13 ?a_14 ?l_14 ?c_14 ?k_14 ?a_15 ?l_15 ?c_15 ?k_15 ?a_16 ?l_16 ?c_16 ?k_16 ?a_17 ?l_17 ?c_17 ?k_17 ?a_18 ?l_18 ?c_18 ?k_18 ?a_19 ?l_19 ?c_19 ?k_19 ?a_20 ?l_20 ?c_20 ?k_20 ?a_21 ?l_21 ?c_21 ?k_21 ?a_22 ?l_22 ?c_22 ?k_22 ?a_23 ?l_23 ?c_23 ?k_23 ?a_24 ?l_24 ?c_24 ?k_24 ?a_25 ?l_25 ?c_25 ?k_25 ?a_26 ?l_26 ?c_26 ?k_26 ?a_27 ?l_27 ?c_27 ?k_27 ?a_28 ?l_28 ?c_28 ?k_28 ?a_29 ?l_29 ?c_29 ?k_29 ?a_30 ?l_30 ?c_30 ?k_30 ?a_31 ?l_31 ?c_31 ?k_31 ?a_32 ?l_32 ?c_32 ?k_32 ?a_33 ?l_33 ?c_33 ?k_33 ?a_34 ?l_34 ?c_34 ?k_34 ?a_35 ?l_35 ?c_35 ?k_35 ?a_36 ?l_36 ?c_36 ?k_36 ?a_37 ?l_37 ?c_37 ?k_37 ?a_38 ?l_38 ?c_38 ?k_38 ?a_39 ?l_39 ?c_39 ?k_39 ?a_40 ?l_40 ?c_40 ?k_40 ?a_41 ?l_41 ?c_41 ?k_41 ?a_42 ?l_42 ?c_42 ?k_42 ?a_43 ?l_43 ?c_43 ?k_43 ?a_44 ?l_44 ?c_44 ?k_44 ?a_45 ?l_45 ?c_45 ?k_45 ?a_46 ?l_46 ?c_46 ?k_46 ?a_47 ?l_47 ?c_47 ?k_47 ?a_48 ?l_48 ?c_48 ?k_48 ?a_49 ?l_49 ?c_49 ?k_49 ?a_50 ?l_50 ?c_50 ?k_50 ?a_51 ?l_51 ?c_51 ?k_51 ?a_52 ?l_52 ?c_52 ?k_52 ?a_53 ?l_53 ?c_53 ?k_53 ?a_54 ?l_54 ?c_54 ?k_54 ?a_55 ?l_55 ?c_55 ?k_55 ?a_56 ?l_56 ?c_56 ?k_56 ?a_57 ?l_57 ?c_57 ?k_57 ?a_58 ?l_58 ?c_58 ?k_58 ?a_59 ?l_59 ?c_59 ?k_59 ?a_60 ?l_60 ?c_60 ?k_60 ?z_all ?z_bool ?z_enumerate ?z_int ?z_isinstance ?z_len ?z_max ?z_min ?z_range ?z_set ?z_sorted ?z_str ?z_sum ?z_tuple ?z_zip ?a_MOST_FAR ?a_MOST_JOINT ?a_MOST_LEGS ?a_MOST_LONG ?a_MOST_ROWS ?a_MOST_SPAN ?a_MOST_STONE ?a_MOST_STONES ?a_MOST_WIDTH ?a_STEPS ?l_STEPS ?l_STEPS_0 ?l_STEPS_1 ?l_STEPS_2 ?l_STEPS_3 ?a_WAYS ?l_WAYS
    (case a_0 => k_is); (case l_0 => k_is); (case c_0 => k_is); (case k_0 => k_is); (case a_1 => k_is); (case l_1 => k_is); (case c_1 => k_is); (case k_1 => k_is); (case a_2 => k_is); (case l_2 => k_is); (case c_2 => k_is); (case k_2 => k_is); (case a_3 => k_is); (case l_3 => k_is); (case c_3 => k_is); (case k_3 => k_is); (case a_4 => k_is); (case l_4 => k_is); (case c_4 => k_is); (case k_4 => k_is); (case a_5 => k_is); (case l_5 => k_is); (case c_5 => k_is); (case k_5 => k_is); (case a_6 => k_is); (case l_6 => k_is); (case c_6 => k_is); (case k_6 => k_is); (case a_7 => k_is); (case l_7 => k_is); (case c_7 => k_is); (case k_7 => k_is); (case a_8 => k_is); (case l_8 => k_is); (case c_8 => k_is); (case k_8 => k_is); (case a_9 => k_is); (case l_9 => k_is); (case c_9 => k_is); (case k_9 => k_is); (case a_10 => k_is); (case l_10 => k_is); (case c_10 => k_is); (case k_10 => k_is); (case a_11 => k_is); (case l_11 => k_is); (case c_11 => k_is); (case k_11 => k_is); (case a_12 => k_is); (case l_12 => k_is); (case c_12 => k_is); (case k_12 => k_is); (case a_13 => k_is); (case l_13 => k_is); (case c_13 => k_is); (case k_13 => k_is); (case a_14 => k_is); (case l_14 => k_is); (case c_14 => k_is); (case k_14 => k_is); (case a_15 => k_is); (case l_15 => k_is); (case c_15 => k_is); (case k_15 => k_is); (case a_16 => k_is); (case l_16 => k_is); (case c_16 => k_is); (case k_16 => k_is); (case a_17 => k_is); (case l_17 => k_is); (case c_17 => k_is); (case k_17 => k_is); (case a_18 => k_is); (case l_18 => k_is); (case c_18 => k_is); (case k_18 => k_is); (case a_19 => k_is); (case l_19 => k_is); (case c_19 => k_is); (case k_19 => k_is); (case a_20 => k_is); (case l_20 => k_is); (case c_20 => k_is); (case k_20 => k_is); (case a_21 => k_is); (case l_21 => k_is); (case c_21 => k_is); (case k_21 => k_is); (case a_22 => k_is); (case l_22 => k_is); (case c_22 => k_is); (case k_22 => k_is); (case a_23 => k_is); (case l_23 => k_is); (case c_23 => k_is); (case k_23 => k_is); (case a_24 => k_is); (case l_24 => k_is); (case c_24 => k_is); (case k_24 => k_is); (case a_25 => k_is); (case l_25 => k_is); (case c_25 => k_is); (case k_25 => k_is); (case a_26 => k_is); (case l_26 => k_is); (case c_26 => k_is); (case k_26 => k_is); (case a_27 => k_is); (case l_27 => k_is); (case c_27 => k_is); (case k_27 => k_is); (case a_28 => k_is); (case l_28 => k_is); (case c_28 => k_is); (case k_28 => k_is); (case a_29 => k_is); (case l_29 => k_is); (case c_29 => k_is); (case k_29 => k_is); (case a_30 => k_is); (case l_30 => k_is); (case c_30 => k_is); (case k_30 => k_is); (case a_31 => k_is); (case l_31 => k_is); (case c_31 => k_is); (case k_31 => k_is); (case a_32 => k_is); (case l_32 => k_is); (case c_32 => k_is); (case k_32 => k_is); (case a_33 => k_is); (case l_33 => k_is); (case c_33 => k_is); (case k_33 => k_is); (case a_34 => k_is); (case l_34 => k_is); (case c_34 => k_is); (case k_34 => k_is); (case a_35 => k_is); (case l_35 => k_is); (case c_35 => k_is); (case k_35 => k_is); (case a_36 => k_is); (case l_36 => k_is); (case c_36 => k_is); (case k_36 => k_is); (case a_37 => k_is); (case l_37 => k_is); (case c_37 => k_is); (case k_37 => k_is); (case a_38 => k_is); (case l_38 => k_is); (case c_38 => k_is); (case k_38 => k_is); (case a_39 => k_is); (case l_39 => k_is); (case c_39 => k_is); (case k_39 => k_is); (case a_40 => k_is); (case l_40 => k_is); (case c_40 => k_is); (case k_40 => k_is); (case a_41 => k_is); (case l_41 => k_is); (case c_41 => k_is); (case k_41 => k_is); (case a_42 => k_is); (case l_42 => k_is); (case c_42 => k_is); (case k_42 => k_is); (case a_43 => k_is); (case l_43 => k_is); (case c_43 => k_is); (case k_43 => k_is); (case a_44 => k_is); (case l_44 => k_is); (case c_44 => k_is); (case k_44 => k_is); (case a_45 => k_is); (case l_45 => k_is); (case c_45 => k_is); (case k_45 => k_is); (case a_46 => k_is); (case l_46 => k_is); (case c_46 => k_is); (case k_46 => k_is); (case a_47 => k_is); (case l_47 => k_is); (case c_47 => k_is); (case k_47 => k_is); (case a_48 => k_is); (case l_48 => k_is); (case c_48 => k_is); (case k_48 => k_is); (case a_49 => k_is); (case l_49 => k_is); (case c_49 => k_is); (case k_49 => k_is); (case a_50 => k_is); (case l_50 => k_is); (case c_50 => k_is); (case k_50 => k_is); (case a_51 => k_is); (case l_51 => k_is); (case c_51 => k_is); (case k_51 => k_is); (case a_52 => k_is); (case l_52 => k_is); (case c_52 => k_is); (case k_52 => k_is); (case a_53 => k_is); (case l_53 => k_is); (case c_53 => k_is); (case k_53 => k_is); (case a_54 => k_is); (case l_54 => k_is); (case c_54 => k_is); (case k_54 => k_is); (case a_55 => k_is); (case l_55 => k_is); (case c_55 => k_is); (case k_55 => k_is); (case a_56 => k_is); (case l_56 => k_is); (case c_56 => k_is); (case k_56 => k_is); (case a_57 => k_is); (case l_57 => k_is); (case c_57 => k_is); (case k_57 => k_is); (case a_58 => k_is); (case l_58 => k_is); (case c_58 => k_is); (case k_58 => k_is); (case a_59 => k_is); (case l_59 => k_is); (case c_59 => k_is); (case k_59 => k_is); (case a_60 => k_is); (case l_60 => k_is); (case c_60 => k_is); (case k_60 => k_is); (case z_all => k_is); (case z_bool => k_is); (case z_enumerate => k_is); (case z_int => k_is); (case z_isinstance => k_is); (case z_len => k_is); (case z_max => k_is); (case z_min => k_is); (case z_range => k_is); (case z_set => k_is); (case z_sorted => k_is); (case z_str => k_is); (case z_sum => k_is); (case z_tuple => k_is); (case z_zip => k_is); (case a_MOST_FAR => k_is); (case a_MOST_JOINT => k_is); (case a_MOST_LEGS => k_is); (case a_MOST_LONG => k_is); (case a_MOST_ROWS => k_is); (case a_MOST_SPAN => k_is); (case a_MOST_STONE => k_is); (case a_MOST_STONES => k_is); (case a_MOST_WIDTH => k_is); (case a_STEPS => k_is); (case l_STEPS => k_is); (case l_STEPS_0 => k_is); (case l_STEPS_1 => k_is); (case l_STEPS_2 => k_is); (case l_STEPS_3 => k_is); (case a_WAYS => k_is); (case l_WAYS => k_is)
